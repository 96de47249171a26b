/-
  Walks of the seat's functions over the logic XG: each function, what it computes. Printed by a program out of wip/walks.py.
-/
import Derived.Test.YtnmilooekbcanaaI
import Derived.Test.YtnmilooekbcanaaP
import Derived.Test.YtnmilooekbcanaaL
import Derived.Test.YtnmilooekbcanaaWa
import Derived.Test.YtnmilooekbcanaaWb
import Derived.Test.YtnmilooekbcanaaWc
import Derived.Test.YtnmilooekbcanaaWd
import Derived.Test.YtnmilooekbcanaaWe
import Derived.Test.YtnmilooekbcanaaWf
import Derived.Test.YtnmilooekbcanaaWg
namespace Go.XG
open Go.Proofs Go.Pen
theorem c7 {O : Outer} {H : Heap}  :
    FnC Try.prog 7 #[] O H (fun v H' => v = .bool true ∧ Ext H H') := by
  refine fn_enter (A := []) Try.func7 rfl rfl ?_
  refine xc_seq ?_
  refine xc_region ?_
  refine xl_pure rfl rfl rfl (pv_assign (v := .bool _) rfl rfl) ?_
  refine xl_nil ?_
  refine xthen_normal ?_
  refine xc_seq ?_
  refine xc_region ?_
  refine xl_heavy rfl rfl rfl (hv_call (g := 14) rfl rfl (c14 _) rfl) ?_
  rintro v1_0 H1_0 ⟨b, rfl, hN⟩
  have hX := hN.ext
  have hge := hN.ge
  have hr := hN.blk
  refine xl_pure rfl rfl rfl (pv_assign (v := .pointer _) rfl rfl) ?_
  refine xl_nil ?_
  refine xthen_normal ?_
  refine xc_seq ?_
  refine xc_seq ?_
  refine xc_region ?_
  refine xl_heavy rfl rfl rfl (hv_call (g := 8) rfl rfl (c8 _ (by decide)) rfl) ?_
  rintro v2_0 H2_0 ⟨rfl, hE2_0⟩
  have hX := hX.trans hE2_0
  have hr := hr.ext hE2_0
  refine xl_ndec rfl rfl rfl (pv_neq_s rfl rfl rfl) (fun h2_1 => ?_) (fun h2_1 => ?_)
  · skip
    refine xl_pure rfl rfl rfl (pv_move (v := .bool _) rfl rfl) ?_
    refine xl_heavy rfl rfl rfl (hv_call (g := 10) rfl rfl (c10 _ (by decide) (by decide)) rfl) ?_
    rintro v2_3 H2_3 ⟨rfl, hE2_3⟩
    have hX := hX.trans hE2_3
    have hr := hr.ext hE2_3
    refine xl_ndec rfl rfl rfl (pv_neq_s rfl rfl rfl) (fun h2_4 => ?_) (fun h2_4 => ?_)
    · skip
      refine xl_pure rfl rfl rfl (pv_pick_f (v := .bool _) rfl rfl rfl) ?_
      refine xl_pure rfl rfl rfl (pv_move (v := .bool _) rfl rfl) ?_
      refine xl_heavy rfl rfl rfl (hv_call (g := 12) rfl rfl (c12 _ (by decide)) rfl) ?_
      rintro v2_7 H2_7 ⟨rfl, hE2_7⟩
      have hX := hX.trans hE2_7
      have hr := hr.ext hE2_7
      refine xl_ndec rfl rfl rfl (pv_neq_s rfl rfl rfl) (fun h2_8 => ?_) (fun h2_8 => ?_)
      · skip
        refine xl_pure rfl rfl rfl (pv_pick_f (v := .bool _) rfl rfl rfl) ?_
        refine xl_pure rfl rfl rfl (pv_move (v := .bool _) rfl rfl) ?_
        refine xl_pure rfl rfl rfl (pv_move (v := .pointer _) rfl rfl) ?_
        refine xl_pure rfl rfl rfl (pv_eql_pn rfl rfl rfl) ?_
        refine xl_pure rfl rfl rfl (pv_pick_f (v := .bool _) rfl rfl rfl) ?_
        refine xl_nil ?_
        refine xthen_normal ?_
        refine xc_cond_f rfl ?_
        refine xc_skip ?_
        refine xthen_normal ?_
        refine xc_seq ?_
        refine xc_region ?_
        refine xl_pure rfl rfl rfl (pv_move (v := .pointer _) rfl rfl) ?_
        refine xl_heavy rfl rfl rfl (hv_call (g := 15) rfl rfl (c15 hr _) rfl) ?_
        rintro v4_1 H4_1 ⟨n4_1, l4_1, bad4_1, hw4_1, hn4_1, rfl, hU4_1⟩
        have e4_1 := hw4_1.symm.trans (by decide : uintS 300 ([172, 2, 1, 2, 97, 98], false) = (300, ([1, 2, 97, 98], false)))
        simp only [Prod.mk.injEq] at e4_1
        obtain ⟨rfl, rfl, rfl⟩ := e4_1
        have hX := hX.ofBut hU4_1.but hge
        have hr := hU4_1.blk
        refine xl_pure rfl rfl rfl (pv_move (v := .pointer _) rfl rfl) ?_
        refine xl_heavy rfl rfl rfl (hv_call (g := 17) rfl rfl (c17 hr) rfl) ?_
        rintro v4_3 H4_3 ⟨n4_3, l4_3, bad4_3, hw4_3, rfl, hU4_3⟩
        have e4_3 := hw4_3.symm.trans (by decide : intS ([1, 2, 97, 98], false) = (-1, ([2, 97, 98], false)))
        simp only [Prod.mk.injEq] at e4_3
        obtain ⟨rfl, rfl, rfl⟩ := e4_3
        have hX := hX.ofBut hU4_3.but hge
        have hr := hU4_3.blk
        refine xl_pure rfl rfl rfl (pv_move (v := .pointer _) rfl rfl) ?_
        refine xl_heavy rfl rfl rfl (hv_call (g := 19) rfl rfl (c19 hr _) rfl) ?_
        rintro v4_5 H4_5 ⟨n4_5, l4_5, bad4_5, hw4_5, rfl, hU4_5⟩
        have e4_5 := hw4_5.symm.trans (by decide : textS 9 ([2, 97, 98], false) = ([97, 98], ([], false)))
        simp only [Prod.mk.injEq] at e4_5
        obtain ⟨rfl, rfl, rfl⟩ := e4_5
        have hX := hX.ofBut hU4_5.but hge
        have hr := hU4_5.blk
        refine xl_pure rfl rfl rfl (pv_assign (v := .int _ _) rfl rfl) ?_
        refine xl_pure rfl rfl rfl (pv_assign (v := .int _ _) rfl rfl) ?_
        refine xl_pure rfl rfl rfl (pv_assign (v := .string (bs _)) rfl rfl) ?_
        refine xl_nil ?_
        refine xthen_normal ?_
        refine xc_seq ?_
        refine xc_region ?_
        refine xl_pure rfl rfl rfl (pv_move (v := .int _ _) rfl rfl) ?_
        refine xl_dec rfl rfl rfl (pv_eql rfl rfl rfl) (fun h5_1 => ?_) (fun h5_1 => ?_)
        · skip
          refine xl_pure rfl rfl rfl (pv_move (v := .bool _) rfl rfl) ?_
          refine xl_pure rfl rfl rfl (pv_move (v := .int _ _) rfl rfl) ?_
          refine xl_dec rfl rfl rfl (pv_eql rfl rfl rfl) (fun h5_4 => ?_) (fun h5_4 => ?_)
          · skip
            refine xl_pure rfl rfl rfl (pv_pick_t (v := .bool _) rfl rfl rfl) ?_
            refine xl_pure rfl rfl rfl (pv_move (v := .bool _) rfl rfl) ?_
            refine xl_pure rfl rfl rfl (pv_move (v := .string (bs _)) rfl rfl) ?_
            refine xl_dec rfl rfl rfl (pv_eql_s rfl rfl rfl) (fun h5_8 => ?_) (fun h5_8 => ?_)
            · skip
              refine xl_pure rfl rfl rfl (pv_pick_t (v := .bool _) rfl rfl rfl) ?_
              refine xl_pure rfl rfl rfl (pv_move (v := .bool _) rfl rfl) ?_
              refine xl_pure rfl rfl rfl (pv_move (v := .pointer _) rfl rfl) ?_
              refine xl_heavy rfl rfl rfl (hv_call (g := 26) rfl rfl (c26 hr) rfl) ?_
              rintro v5_12 H5_12 ⟨rfl, rfl⟩
              refine xl_pure rfl rfl rfl (pv_pick_t (v := .bool _) rfl rfl rfl) ?_
              refine xl_pure rfl rfl rfl (pv_move (v := .bool _) rfl rfl) ?_
              refine xl_pure rfl rfl rfl (pv_move (v := .pointer _) rfl rfl) ?_
              refine xl_heavy rfl rfl rfl (hv_call (g := 25) rfl rfl (c25 hr) rfl) ?_
              rintro v5_16 H5_16 ⟨rfl, rfl⟩
              refine xl_pure rfl rfl rfl (pv_not rfl rfl) ?_
              refine xl_pure rfl rfl rfl (pv_pick_t (v := .bool _) rfl rfl rfl) ?_
              refine xl_pure rfl rfl rfl (pv_move (v := .bool _) rfl rfl) ?_
              refine xl_pure rfl rfl rfl (pv_move (v := .pointer _) rfl rfl) ?_
              refine xl_heavy rfl rfl rfl (hv_call (g := 15) rfl rfl (c15 hr _) rfl) ?_
              rintro v5_21 H5_21 ⟨n5_21, l5_21, bad5_21, hw5_21, hn5_21, rfl, hU5_21⟩
              have e5_21 := hw5_21.symm.trans (by decide : uintS 1 ([], false) = (0, ([], true)))
              simp only [Prod.mk.injEq] at e5_21
              obtain ⟨rfl, rfl, rfl⟩ := e5_21
              have hX := hX.ofBut hU5_21.but hge
              have hr := hU5_21.blk
              refine xl_dec rfl rfl rfl (pv_eql rfl rfl rfl) (fun h5_22 => ?_) (fun h5_22 => ?_)
              · skip
                refine xl_pure rfl rfl rfl (pv_pick_t (v := .bool _) rfl rfl rfl) ?_
                refine xl_pure rfl rfl rfl (pv_move (v := .bool _) rfl rfl) ?_
                refine xl_pure rfl rfl rfl (pv_move (v := .pointer _) rfl rfl) ?_
                refine xl_heavy rfl rfl rfl (hv_call (g := 25) rfl rfl (c25 hr) rfl) ?_
                rintro v5_26 H5_26 ⟨rfl, rfl⟩
                refine xl_pure rfl rfl rfl (pv_pick_t (v := .bool _) rfl rfl rfl) ?_
                refine xl_pure rfl rfl rfl (pv_move (v := .bool _) rfl rfl) ?_
                refine xl_pure rfl rfl rfl (pv_move (v := .pointer _) rfl rfl) ?_
                refine xl_heavy rfl rfl rfl (hv_call (g := 26) rfl rfl (c26 hr) rfl) ?_
                rintro v5_30 H5_30 ⟨rfl, rfl⟩
                refine xl_pure rfl rfl rfl (pv_not rfl rfl) ?_
                refine xl_pure rfl rfl rfl (pv_pick_t (v := .bool _) rfl rfl rfl) ?_
                refine xl_pure rfl rfl rfl (pv_assign (v := .bool _) rfl rfl) ?_
                refine xl_nil ?_
                refine xthen_normal ?_
                refine xc_ret ?_
                refine fin_ret (res1 (v := .bool _) rfl rfl) ?_
                exact ⟨rfl, hX⟩
              · exact absurd (by decide) h5_22
            · exact absurd (by decide) h5_8
          · exact absurd (by decide) h5_4
        · exact absurd (by decide) h5_1
      · exact absurd (by decide) h2_8
    · exact absurd (by decide) h2_4
  · exact absurd (by decide) h2_1

theorem c3 {O : Outer} {H : Heap} (n : Int) (hl : -9223372036854775808 ≤ n) (hn : n < 9223372036854775808) (l : List UInt8) :
    FnC Try.prog 3 #[.int .i64 n, .string (bs l)] O H (fun v H' => v = .bool true ∧ Ext H H') := by
  refine fn_enter (A := [.int .i64 n, .string (bs l)]) Try.func3 rfl rfl ?_
  refine xc_seq ?_
  refine xc_region ?_
  refine xl_pure rfl rfl rfl (pv_assign (v := .bool _) rfl rfl) ?_
  refine xl_nil ?_
  refine xthen_normal ?_
  refine xc_seq ?_
  refine xc_seq ?_
  refine xc_region ?_
  refine xl_pure rfl rfl rfl (pv_move (v := .string (bs _)) rfl rfl) ?_
  refine xl_pure rfl rfl rfl (pv_len_s rfl rfl) ?_
  refine xl_dec rfl rfl rfl (pv_gtr rfl rfl rfl) (fun h1_2 => ?_) (fun h1_2 => ?_)
  · skip
    refine xl_nil ?_
    refine xthen_normal ?_
    refine xc_cond_t rfl ?_
    refine xc_seq ?_
    refine xc_region ?_
    refine xl_heavy rfl rfl rfl (hv_call (g := 7) rfl rfl (c7) rfl) ?_
    rintro v2_0 H2_0 ⟨rfl, hE2_0⟩
    refine xl_pure rfl rfl rfl (pv_assign (v := .bool _) rfl rfl) ?_
    refine xl_nil ?_
    refine xthen_normal ?_
    refine xc_ret ?_
    refine xthen_ret ?_
    refine fin_ret (res1 (v := .bool _) rfl rfl) ?_
    exact ⟨rfl, hE2_0⟩
  · skip
    refine xl_nil ?_
    refine xthen_normal ?_
    refine xc_cond_f rfl ?_
    refine xc_skip ?_
    refine xthen_normal ?_
    refine xc_seq ?_
    refine xc_region ?_
    refine xl_pure rfl rfl rfl (pv_move (v := .int _ _) rfl rfl) ?_
    refine xl_heavy rfl rfl rfl (hv_call (g := 8) rfl rfl (c8 _ (by omega)) rfl) ?_
    rintro v3_1 H3_1 ⟨rfl, hE3_1⟩
    refine xl_pure rfl rfl rfl (pv_move (v := .int _ _) rfl rfl) ?_
    refine xl_heavy rfl rfl rfl (hv_call (g := 9) rfl rfl (c9 _ (by omega)) rfl) ?_
    rintro v3_3 H3_3 ⟨rfl, hE3_3⟩
    refine xl_dec rfl rfl rfl (pv_eql_s rfl rfl rfl) (fun h3_4 => ?_) (fun h3_4 => ?_)
    · skip
      refine xl_pure rfl rfl rfl (pv_move (v := .bool _) rfl rfl) ?_
      refine xl_pure rfl rfl rfl (pv_move (v := .int _ _) rfl rfl) ?_
      refine xl_heavy rfl rfl rfl (hv_call (g := 10) rfl rfl (c10 _ hl hn) rfl) ?_
      rintro v3_7 H3_7 ⟨rfl, hE3_7⟩
      refine xl_pure rfl rfl rfl (pv_move (v := .int _ _) rfl rfl) ?_
      refine xl_heavy rfl rfl rfl (hv_call (g := 11) rfl rfl (c11 _ hl hn) rfl) ?_
      rintro v3_9 H3_9 ⟨rfl, hE3_9⟩
      refine xl_dec rfl rfl rfl (pv_eql_s rfl rfl rfl) (fun h3_10 => ?_) (fun h3_10 => ?_)
      · skip
        refine xl_pure rfl rfl rfl (pv_pick_t (v := .bool _) rfl rfl rfl) ?_
        refine xl_pure rfl rfl rfl (pv_move (v := .bool _) rfl rfl) ?_
        refine xl_pure rfl rfl rfl (pv_move (v := .string (bs _)) rfl rfl) ?_
        refine xl_heavy rfl rfl rfl (hv_call (g := 12) rfl rfl (c12 _ (by omega)) rfl) ?_
        rintro v3_14 H3_14 ⟨rfl, hE3_14⟩
        refine xl_pure rfl rfl rfl (pv_move (v := .string (bs _)) rfl rfl) ?_
        refine xl_heavy rfl rfl rfl (hv_call (g := 13) rfl rfl (c13 _ (by omega)) rfl) ?_
        rintro v3_16 H3_16 ⟨rfl, hE3_16⟩
        refine xl_dec rfl rfl rfl (pv_eql_s rfl rfl rfl) (fun h3_17 => ?_) (fun h3_17 => ?_)
        · skip
          refine xl_pure rfl rfl rfl (pv_pick_t (v := .bool _) rfl rfl rfl) ?_
          refine xl_pure rfl rfl rfl (pv_move (v := .bool _) rfl rfl) ?_
          refine xl_heavy rfl rfl rfl (hv_call (g := 7) rfl rfl (c7) rfl) ?_
          rintro v3_20 H3_20 ⟨rfl, hE3_20⟩
          refine xl_pure rfl rfl rfl (pv_pick_t (v := .bool _) rfl rfl rfl) ?_
          refine xl_pure rfl rfl rfl (pv_assign (v := .bool _) rfl rfl) ?_
          refine xl_nil ?_
          refine xthen_normal ?_
          refine xc_ret ?_
          refine fin_ret (res1 (v := .bool _) rfl rfl) ?_
          exact ⟨rfl, ((((((hE3_1.trans hE3_3).trans hE3_7).trans hE3_9).trans hE3_14).trans hE3_16).trans hE3_20)⟩
        · exact absurd rfl h3_17
      · exact absurd rfl h3_10
    · exact absurd rfl h3_4

theorem c6 {O : Outer} {H : Heap} (most : Int) :
    FnC Try.prog 6 #[.int .i64 most] O H (fun v H' => v = .bool true ∧ Ext H H') := by
  refine fn_enter (A := [.int .i64 most]) Try.func6 rfl rfl ?_
  refine xc_seq ?_
  refine xc_region ?_
  refine xl_pure rfl rfl rfl (pv_assign (v := .bool _) rfl rfl) ?_
  refine xl_nil ?_
  refine xthen_normal ?_
  refine xc_seq ?_
  refine xc_region ?_
  refine xl_pure rfl rfl rfl (pv_build_s (cs := [.string (bs _), .bool _, .bool _]) rfl rfl rfl) ?_
  refine xl_heavy rfl rfl rfl (hv_box rfl rfl) ?_
  rintro v1_1 H1_1 ⟨b1_1, rfl, hN1_1⟩
  have hr := hN1_1.blk
  have hX := hN1_1.ext
  have hge := hN1_1.ge
  refine xl_heavy rfl rfl rfl (hv_buildSlice (cs := [.pointer _, .pointer _]) rfl rfl rfl rfl rfl) ?_
  rintro v1_2 H1_2 ⟨b1_2, rfl, hN1_2⟩
  have hr := hr.ext hN1_2.ext
  have hX := hX.trans hN1_2.ext
  have hl := hN1_2.blk
  have hne := Blk.ne hl hr rfl
  refine xl_pure rfl rfl rfl (pv_assign (v := .slice _ _ _) rfl rfl) ?_
  refine xl_nil ?_
  refine xthen_normal ?_
  refine xc_seq ?_
  refine xc_seq ?_
  refine xc_region ?_
  refine xl_pure rfl rfl rfl (pv_assign (v := .int _ _) rfl rfl) ?_
  refine xl_nil ?_
  refine xthen_normal ?_
  refine xc_block ?_
  refine xc_loop (τ := Nat × Bool) (fun t => [(0, .int .i64 most), (3, .slice (some ⟨b1_2, 0, none⟩) 2 2), (4, .int .i64 (t.1 : Nat))]) (fun t H' => t.1 ≤ 2 ∧ Blk H' b1_1 [.string (bs []), .bool t.2, .bool false] 41 ∧ Blk H' b1_2 [.pointer none, .pointer (some ⟨b1_1, 0, none⟩)] 27 ∧ Ext H H') (fun t H' => 2 - t.1) (0, false) ?_ ?_ ?_
  · exact ⟨rfl, rfl, rfl, trivial⟩
  · skip
    exact ⟨by omega, hr, hl, hX⟩
  · intro σ
    clear hr hX hl
    rintro ⟨k, bad⟩ Hl ⟨hk, hr, hl, hX⟩
    simp only at hk hr hl
    show XC _ _ _ (upds σ [(0, .int .i64 most), (3, .slice (some ⟨b1_2, 0, none⟩) 2 2), (4, .int .i64 (k : Nat))]) _
    refine xc_seq ?_
    refine xc_seq ?_
    refine xc_region ?_
    refine xl_pure rfl rfl rfl (pv_move (v := .int _ _) rfl rfl) ?_
    refine xl_pure rfl rfl rfl (pv_move (v := .slice _ _ _) rfl rfl) ?_
    refine xl_pure rfl rfl rfl (pv_len_l rfl rfl) ?_
    refine xl_dec rfl rfl rfl (pv_lss rfl rfl rfl) (fun h3_3 => ?_) (fun h3_3 => ?_)
    · skip
      refine xl_nil ?_
      refine xthen_normal ?_
      refine xc_cond_t rfl ?_
      refine xc_skip ?_
      refine xthen_normal ?_
      refine xc_seq ?_
      refine xc_block ?_
      refine xc_seq ?_
      refine xc_region ?_
      refine xl_pure rfl rfl rfl (pv_move (v := .slice _ _ _) rfl rfl) ?_
      refine xl_pure rfl rfl rfl (pv_move (v := .int _ _) rfl rfl) ?_
      refine xl_pure rfl rfl rfl (pv_indexAddr_l rfl rfl rfl (by omega)) ?_
      have hk01 : k = 0 ∨ k = 1 := by omega
      rcases hk01 with rfl | rfl
      · skip
        refine xl_light rfl rfl rfl (lv_load (v := .pointer _) rfl rfl (by first | exact ld_blk hl rfl)) ?_
        refine xl_pure rfl rfl rfl (pv_assign (v := .pointer _) rfl rfl) ?_
        refine xl_nil ?_
        refine xthen_normal ?_
        refine xc_seq ?_
        refine xc_region ?_
        refine xl_pure rfl rfl rfl (pv_move (v := .pointer _) rfl rfl) ?_
        refine xl_pure rfl rfl rfl (pv_move (v := .int _ _) rfl rfl) ?_
        refine xl_heavy rfl rfl rfl (hv_call (g := 15) rfl rfl (c15n most) rfl) ?_
        rintro v6_2 H6_2 ⟨rfl, rfl⟩
        refine xl_ndec rfl rfl rfl (pv_neq rfl rfl rfl) (fun h6_3 => ?_) (fun h6_3 => ?_)
        · skip
          refine xl_pure rfl rfl rfl (pv_move (v := .bool _) rfl rfl) ?_
          refine xl_pure rfl rfl rfl (pv_move (v := .pointer _) rfl rfl) ?_
          refine xl_heavy rfl rfl rfl (hv_call (g := 17) rfl rfl (c17n) rfl) ?_
          rintro v6_6 H6_6 ⟨rfl, rfl⟩
          refine xl_ndec rfl rfl rfl (pv_neq rfl rfl rfl) (fun h6_7 => ?_) (fun h6_7 => ?_)
          · skip
            refine xl_pure rfl rfl rfl (pv_pick_f (v := .bool _) rfl rfl rfl) ?_
            refine xl_pure rfl rfl rfl (pv_move (v := .bool _) rfl rfl) ?_
            refine xl_pure rfl rfl rfl (pv_move (v := .pointer _) rfl rfl) ?_
            refine xl_pure rfl rfl rfl (pv_move (v := .int _ _) rfl rfl) ?_
            refine xl_heavy rfl rfl rfl (hv_call (g := 19) rfl rfl (c19n most) rfl) ?_
            rintro v6_12 H6_12 ⟨rfl, rfl⟩
            refine xl_ndec rfl rfl rfl (pv_neq_s rfl rfl rfl) (fun h6_13 => ?_) (fun h6_13 => ?_)
            · skip
              refine xl_pure rfl rfl rfl (pv_pick_f (v := .bool _) rfl rfl rfl) ?_
              refine xl_pure rfl rfl rfl (pv_move (v := .bool _) rfl rfl) ?_
              refine xl_pure rfl rfl rfl (pv_move (v := .pointer _) rfl rfl) ?_
              refine xl_pure rfl rfl rfl (pv_move (v := .int _ _) rfl rfl) ?_
              refine xl_heavy rfl rfl rfl (hv_call (g := 21) rfl rfl (c21n most) rfl) ?_
              rintro v6_18 H6_18 ⟨rfl, rfl⟩
              refine xl_ndec rfl rfl rfl (pv_neq rfl rfl rfl) (fun h6_19 => ?_) (fun h6_19 => ?_)
              · skip
                refine xl_pure rfl rfl rfl (pv_pick_f (v := .bool _) rfl rfl rfl) ?_
                refine xl_pure rfl rfl rfl (pv_move (v := .bool _) rfl rfl) ?_
                refine xl_pure rfl rfl rfl (pv_move (v := .pointer _) rfl rfl) ?_
                refine xl_heavy rfl rfl rfl (hv_call (g := 23) rfl rfl (c23n) rfl) ?_
                rintro v6_23 H6_23 ⟨rfl, rfl⟩
                refine xl_ndec rfl rfl rfl (pv_neq rfl rfl rfl) (fun h6_24 => ?_) (fun h6_24 => ?_)
                · skip
                  refine xl_pure rfl rfl rfl (pv_pick_f (v := .bool _) rfl rfl rfl) ?_
                  refine xl_pure rfl rfl rfl (pv_move (v := .bool _) rfl rfl) ?_
                  refine xl_pure rfl rfl rfl (pv_move (v := .pointer _) rfl rfl) ?_
                  refine xl_heavy rfl rfl rfl (hv_call (g := 25) rfl rfl (c25n) rfl) ?_
                  rintro v6_28 H6_28 ⟨rfl, rfl⟩
                  refine xl_pure rfl rfl rfl (pv_not rfl rfl) ?_
                  refine xl_pure rfl rfl rfl (pv_pick_f (v := .bool _) rfl rfl rfl) ?_
                  refine xl_pure rfl rfl rfl (pv_move (v := .bool _) rfl rfl) ?_
                  refine xl_pure rfl rfl rfl (pv_move (v := .pointer _) rfl rfl) ?_
                  refine xl_heavy rfl rfl rfl (hv_call (g := 26) rfl rfl (c26n) rfl) ?_
                  rintro v6_33 H6_33 ⟨rfl, rfl⟩
                  refine xl_pure rfl rfl rfl (pv_pick_f (v := .bool _) rfl rfl rfl) ?_
                  refine xl_nil ?_
                  refine xthen_normal ?_
                  refine xc_cond_f rfl ?_
                  refine xc_skip ?_
                  refine xblock_normal ?_
                  refine xthen_normal ?_
                  refine xc_region ?_
                  refine xl_pure rfl rfl rfl (pv_move (v := .int _ _) rfl rfl) ?_
                  refine xl_pure rfl rfl rfl (pv_add rfl rfl rfl (fit_i64 (by omega))) ?_
                  refine xl_pure rfl rfl rfl (pv_assign (v := .int _ _) rfl rfl) ?_
                  refine xl_nil ?_
                  refine xthen_normal ?_
                  first
                    | exact ⟨(1, _), ⟨rfl, rfl, rfl, trivial⟩, ⟨by omega, hr, hl, hX⟩, by simp only; omega⟩
                    | exact ⟨(2, _), ⟨rfl, rfl, rfl, trivial⟩, ⟨by omega, hr, hl, hX⟩, by simp only; omega⟩
                · exact absurd rfl h6_24
              · exact absurd rfl h6_19
            · exact absurd rfl h6_13
          · exact absurd rfl h6_7
        · exact absurd rfl h6_3
      · skip
        refine xl_light rfl rfl rfl (lv_load (v := .pointer _) rfl rfl (by first | exact ld_blk hl rfl)) ?_
        refine xl_pure rfl rfl rfl (pv_assign (v := .pointer _) rfl rfl) ?_
        refine xl_nil ?_
        refine xthen_normal ?_
        refine xc_seq ?_
        refine xc_region ?_
        refine xl_pure rfl rfl rfl (pv_move (v := .pointer _) rfl rfl) ?_
        refine xl_pure rfl rfl rfl (pv_move (v := .int _ _) rfl rfl) ?_
        refine xl_heavy rfl rfl rfl (hv_call (g := 15) rfl rfl (c15u hr most) rfl) ?_
        rintro v6_2 H6_2 ⟨rfl, bad6_2, hU6_2⟩
        have hX := hX.ofBut hU6_2.but hge
        have hl := hl.but hU6_2.but hne
        have hr := hU6_2.blk
        refine xl_ndec rfl rfl rfl (pv_neq rfl rfl rfl) (fun h6_3 => ?_) (fun h6_3 => ?_)
        · skip
          refine xl_pure rfl rfl rfl (pv_move (v := .bool _) rfl rfl) ?_
          refine xl_pure rfl rfl rfl (pv_move (v := .pointer _) rfl rfl) ?_
          refine xl_heavy rfl rfl rfl (hv_call (g := 17) rfl rfl (c17u hr) rfl) ?_
          rintro v6_6 H6_6 ⟨rfl, rfl⟩
          refine xl_ndec rfl rfl rfl (pv_neq rfl rfl rfl) (fun h6_7 => ?_) (fun h6_7 => ?_)
          · skip
            refine xl_pure rfl rfl rfl (pv_pick_f (v := .bool _) rfl rfl rfl) ?_
            refine xl_pure rfl rfl rfl (pv_move (v := .bool _) rfl rfl) ?_
            refine xl_pure rfl rfl rfl (pv_move (v := .pointer _) rfl rfl) ?_
            refine xl_pure rfl rfl rfl (pv_move (v := .int _ _) rfl rfl) ?_
            refine xl_heavy rfl rfl rfl (hv_call (g := 19) rfl rfl (c19u hr most) rfl) ?_
            rintro v6_12 H6_12 ⟨rfl, bad6_12, hU6_12⟩
            have hX := hX.ofBut hU6_12.but hge
            have hl := hl.but hU6_12.but hne
            have hr := hU6_12.blk
            refine xl_ndec rfl rfl rfl (pv_neq_s rfl rfl rfl) (fun h6_13 => ?_) (fun h6_13 => ?_)
            · skip
              refine xl_pure rfl rfl rfl (pv_pick_f (v := .bool _) rfl rfl rfl) ?_
              refine xl_pure rfl rfl rfl (pv_move (v := .bool _) rfl rfl) ?_
              refine xl_pure rfl rfl rfl (pv_move (v := .pointer _) rfl rfl) ?_
              refine xl_pure rfl rfl rfl (pv_move (v := .int _ _) rfl rfl) ?_
              refine xl_heavy rfl rfl rfl (hv_call (g := 21) rfl rfl (c21u hr most) rfl) ?_
              rintro v6_18 H6_18 ⟨rfl, bad6_18, hU6_18⟩
              have hX := hX.ofBut hU6_18.but hge
              have hl := hl.but hU6_18.but hne
              have hr := hU6_18.blk
              refine xl_ndec rfl rfl rfl (pv_neq rfl rfl rfl) (fun h6_19 => ?_) (fun h6_19 => ?_)
              · skip
                refine xl_pure rfl rfl rfl (pv_pick_f (v := .bool _) rfl rfl rfl) ?_
                refine xl_pure rfl rfl rfl (pv_move (v := .bool _) rfl rfl) ?_
                refine xl_pure rfl rfl rfl (pv_move (v := .pointer _) rfl rfl) ?_
                refine xl_heavy rfl rfl rfl (hv_call (g := 23) rfl rfl (c23u hr) rfl) ?_
                rintro v6_23 H6_23 ⟨rfl, rfl⟩
                refine xl_ndec rfl rfl rfl (pv_neq rfl rfl rfl) (fun h6_24 => ?_) (fun h6_24 => ?_)
                · skip
                  refine xl_pure rfl rfl rfl (pv_pick_f (v := .bool _) rfl rfl rfl) ?_
                  refine xl_pure rfl rfl rfl (pv_move (v := .bool _) rfl rfl) ?_
                  refine xl_pure rfl rfl rfl (pv_move (v := .pointer _) rfl rfl) ?_
                  refine xl_heavy rfl rfl rfl (hv_call (g := 25) rfl rfl (c25 hr) rfl) ?_
                  rintro v6_28 H6_28 ⟨rfl, rfl⟩
                  refine xl_pure rfl rfl rfl (pv_not rfl rfl) ?_
                  refine xl_pure rfl rfl rfl (pv_pick_f (v := .bool _) rfl rfl rfl) ?_
                  refine xl_pure rfl rfl rfl (pv_move (v := .bool _) rfl rfl) ?_
                  refine xl_pure rfl rfl rfl (pv_move (v := .pointer _) rfl rfl) ?_
                  refine xl_heavy rfl rfl rfl (hv_call (g := 26) rfl rfl (c26u hr) rfl) ?_
                  rintro v6_33 H6_33 ⟨rfl, rfl⟩
                  refine xl_pure rfl rfl rfl (pv_pick_f (v := .bool _) rfl rfl rfl) ?_
                  refine xl_nil ?_
                  refine xthen_normal ?_
                  refine xc_cond_f rfl ?_
                  refine xc_skip ?_
                  refine xblock_normal ?_
                  refine xthen_normal ?_
                  refine xc_region ?_
                  refine xl_pure rfl rfl rfl (pv_move (v := .int _ _) rfl rfl) ?_
                  refine xl_pure rfl rfl rfl (pv_add rfl rfl rfl (fit_i64 (by omega))) ?_
                  refine xl_pure rfl rfl rfl (pv_assign (v := .int _ _) rfl rfl) ?_
                  refine xl_nil ?_
                  refine xthen_normal ?_
                  first
                    | exact ⟨(1, _), ⟨rfl, rfl, rfl, trivial⟩, ⟨by omega, hr, hl, hX⟩, by simp only; omega⟩
                    | exact ⟨(2, _), ⟨rfl, rfl, rfl, trivial⟩, ⟨by omega, hr, hl, hX⟩, by simp only; omega⟩
                · exact absurd rfl h6_24
              · exact absurd rfl h6_19
            · exact absurd rfl h6_13
          · exact absurd rfl h6_7
        · exact absurd rfl h6_3
    · skip
      refine xl_nil ?_
      refine xthen_normal ?_
      refine xc_cond_f rfl ?_
      refine xc_exit ?_
      refine xthen_exit ?_
      refine xthen_exit ?_
      refine xblock_same ?_
      refine xthen_normal ?_
      refine xc_seq ?_
      refine xc_region ?_
      refine xl_heavy rfl rfl rfl (hv_call (g := 7) rfl rfl (c7) rfl) ?_
      rintro v8_0 H8_0 ⟨rfl, hE8_0⟩
      refine xl_pure rfl rfl rfl (pv_assign (v := .bool _) rfl rfl) ?_
      refine xl_nil ?_
      refine xthen_normal ?_
      refine xc_ret ?_
      refine fin_ret (res1 (v := .bool _) rfl rfl) ?_
      exact ⟨rfl, hX.trans hE8_0⟩
end Go.XG
