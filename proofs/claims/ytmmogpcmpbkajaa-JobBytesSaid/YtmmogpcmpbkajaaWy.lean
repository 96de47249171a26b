/-
  Walks of the seat's functions over the logic XG: each function, what it computes. Printed by a program out of wip/walks.py.
-/
import Derived.Test.YtmmogpcmpbkajaaI
import Derived.Test.YtmmogpcmpbkajaaP
import Derived.Test.YtmmogpcmpbkajaaL
import Derived.Test.YtmmogpcmpbkajaaWa
import Derived.Test.YtmmogpcmpbkajaaWb
import Derived.Test.YtmmogpcmpbkajaaWc
import Derived.Test.YtmmogpcmpbkajaaWd
import Derived.Test.YtmmogpcmpbkajaaWe
import Derived.Test.YtmmogpcmpbkajaaWf
import Derived.Test.YtmmogpcmpbkajaaWg
import Derived.Test.YtmmogpcmpbkajaaWh
import Derived.Test.YtmmogpcmpbkajaaLn
import Derived.Test.YtmmogpcmpbkajaaNa
import Derived.Test.YtmmogpcmpbkajaaNb
import Derived.Test.YtmmogpcmpbkajaaNc
import Derived.Test.YtmmogpcmpbkajaaNd
import Derived.Test.YtmmogpcmpbkajaaNf
import Derived.Test.YtmmogpcmpbkajaaNg
import Derived.Test.YtmmogpcmpbkajaaXk
import Derived.Test.YtmmogpcmpbkajaaB6
import Derived.Test.YtmmogpcmpbkajaaWr
import Derived.Test.YtmmogpcmpbkajaaWs
import Derived.Test.YtmmogpcmpbkajaaWt
import Derived.Test.YtmmogpcmpbkajaaWu
import Derived.Test.YtmmogpcmpbkajaaWv
import Derived.Test.YtmmogpcmpbkajaaWx
namespace Go.XG
open Go.Proofs Go.Pen
set_option maxRecDepth 4000
set_option maxHeartbeats 4000000
theorem c5 {O : Outer} {H : Heap} (j : J) (a : Option Addr) (c : Nat) (s : List UInt8) (hs : Stks H a j.needs) :
    FnC Try.prog 5 #[.agg (jcs j a c).toArray, .string (bs s)] O H (fun v H' => v = .bool true ∧ Ext H H') := by
  refine fn_enter (A := [.agg (jcs j a c).toArray, .string (bs s)]) Try.func5 rfl rfl ?_
  have hX := Ext.refl H
  refine xc_seq ?_
  refine xc_region ?_
  refine xl_heavy rfl rfl rfl (hv_box rfl rfl) ?_
  rintro v0_0 H0_0 ⟨b0_0, rfl, hN0_0⟩
  have gb0_0 := hX.fresh hN0_0
  have hX := hX.trans hN0_0.ext
  have m0_0 := hN0_0.blk
  refine xl_pure rfl rfl rfl (pv_assign (v := .bool _) rfl rfl) ?_
  refine xl_nil ?_
  refine xthen_normal ?_
  refine xc_seq ?_
  refine xc_seq ?_
  refine xc_region ?_
  refine xl_pure rfl rfl rfl (pv_fieldAddr rfl rfl) ?_
  refine xl_light rfl rfl rfl (lv_load (v := .slice _ _ _) rfl rfl (ld_blk m0_0 rfl)) ?_
  refine xl_pure rfl rfl rfl (pv_len_l rfl rfl) ?_
  refine xl_dec rfl rfl rfl (pv_gtr rfl rfl rfl) (fun h1_3 => ?_) (fun h1_3 => ?_)
  · skip
    refine xl_pure rfl rfl rfl (pv_move (v := .bool _) rfl rfl) ?_
    refine xl_skip rfl rfl rfl ?_
    refine xl_skip rfl rfl rfl ?_
    refine xl_skip rfl rfl rfl ?_
    refine xl_pure rfl rfl rfl (pv_pick_t (v := .bool _) rfl rfl rfl) ?_
    refine xl_nil ?_
    refine xthen_normal ?_
    refine xc_cond_t rfl ?_
    refine xc_seq ?_
    refine xc_region ?_
    refine xl_heavy rfl rfl rfl (hv_call (g := 6) rfl rfl (c6) rfl) ?_
    rintro v2_0 H2_0 ⟨rfl, hE2_0⟩
    have m0_0 := m0_0.ext hE2_0
    have hX := hX.trans hE2_0
    refine xl_pure rfl rfl rfl (pv_assign (v := .bool _) rfl rfl) ?_
    refine xl_nil ?_
    refine xthen_normal ?_
    refine xc_ret ?_
    refine xthen_ret ?_
    refine fin_ret (res1 (v := .bool _) rfl rfl) ?_
    exact ⟨rfl, hX⟩
  · skip
    refine xl_pure rfl rfl rfl (pv_move (v := .bool _) rfl rfl) ?_
    refine xl_pure rfl rfl rfl (pv_move (v := .string (bs _)) rfl rfl) ?_
    refine xl_pure rfl rfl rfl (pv_len_s rfl rfl) ?_
    refine xl_dec rfl rfl rfl (pv_gtr rfl rfl rfl) (fun h1_7 => ?_) (fun h1_7 => ?_)
    · skip
      refine xl_pure rfl rfl rfl (pv_pick_f (v := .bool _) rfl rfl rfl) ?_
      refine xl_nil ?_
      refine xthen_normal ?_
      refine xc_cond_t rfl ?_
      refine xc_seq ?_
      refine xc_region ?_
      refine xl_heavy rfl rfl rfl (hv_call (g := 6) rfl rfl (c6) rfl) ?_
      rintro v2_0 H2_0 ⟨rfl, hE2_0⟩
      have m0_0 := m0_0.ext hE2_0
      have hX := hX.trans hE2_0
      refine xl_pure rfl rfl rfl (pv_assign (v := .bool _) rfl rfl) ?_
      refine xl_nil ?_
      refine xthen_normal ?_
      refine xc_ret ?_
      refine xthen_ret ?_
      refine fin_ret (res1 (v := .bool _) rfl rfl) ?_
      exact ⟨rfl, hX⟩
    · skip
      refine xl_pure rfl rfl rfl (pv_pick_f (v := .bool _) rfl rfl rfl) ?_
      refine xl_nil ?_
      refine xthen_normal ?_
      refine xc_cond_f rfl ?_
      refine xc_skip ?_
      refine xthen_normal ?_
      refine xc_seq ?_
      refine xc_region ?_
      refine xl_light rfl rfl rfl (lv_load (v := .agg _) rfl rfl (ld_blk_a m0_0 rfl rfl)) ?_
      refine xl_heavy rfl rfl rfl (hv_call (g := 17) rfl rfl (c17 j a c (hs.ext hX) (by omega)) rfl) ?_
      rintro v3_1 H3_1 ⟨hc3_1, hE3_1⟩
      have m0_0 := m0_0.ext hE3_1
      have hX := hX.trans hE3_1
      rcases hc3_1 with ⟨hgd, rfl⟩ | ⟨hgd, rfl⟩
      · skip
        refine xl_pure rfl rfl rfl (pv_move (v := .tuple _) rfl rfl) ?_
        refine xl_pure rfl rfl rfl (pv_extract (v := .string (bs _)) rfl rfl rfl) ?_
        refine xl_pure rfl rfl rfl (pv_extract (v := .int _ _) rfl rfl rfl) ?_
        refine xl_pure rfl rfl rfl (pv_assign (v := .string (bs _)) rfl rfl) ?_
        refine xl_pure rfl rfl rfl (pv_assign (v := .int _ _) rfl rfl) ?_
        refine xl_nil ?_
        refine xthen_normal ?_
        refine xc_seq ?_
        refine xc_region ?_
        refine xl_light rfl rfl rfl (lv_load (v := .agg _) rfl rfl (ld_blk_a m0_0 rfl rfl)) ?_
        refine xl_heavy rfl rfl rfl (hv_call (g := 18) rfl rfl (c18 j a c (hs.ext hX) (by omega)) rfl) ?_
        rintro v4_1 H4_1 ⟨hc4_1, hE4_1⟩
        have m0_0 := m0_0.ext hE4_1
        have hX := hX.trans hE4_1
        obtain rfl : v4_1 = .tuple #[.string (bs []), .int .i64 1] := by
          rcases hc4_1 with ⟨h1, h⟩ | ⟨h1, h⟩
          · exact h
          · exact absurd h1 hgd
        refine xl_pure rfl rfl rfl (pv_move (v := .tuple _) rfl rfl) ?_
        refine xl_pure rfl rfl rfl (pv_extract (v := .string (bs _)) rfl rfl rfl) ?_
        refine xl_pure rfl rfl rfl (pv_extract (v := .int _ _) rfl rfl rfl) ?_
        refine xl_pure rfl rfl rfl (pv_assign (v := .string (bs _)) rfl rfl) ?_
        refine xl_pure rfl rfl rfl (pv_assign (v := .int _ _) rfl rfl) ?_
        refine xl_nil ?_
        refine xthen_normal ?_
        refine xc_seq ?_
        refine xc_region ?_
        refine xl_pure rfl rfl rfl (pv_move (v := .string (bs _)) rfl rfl) ?_
        refine xl_heavy rfl rfl rfl (hv_call (g := 19) rfl rfl (c19 s) rfl) ?_
        rintro v5_1 H5_1 ⟨r5_1, x5_1, a5_1, c5_1, rfl, hd5_1, hs5_1, hg5_1, hE5_1⟩
        have m0_0 := m0_0.ext hE5_1
        have hX := hX.trans hE5_1
        have hX5_1 := Ext.refl H5_1
        rcases read_split hd5_1 with ⟨rfl, hpt⟩ | ⟨rfl, rfl⟩
        · skip
          refine xl_pure rfl rfl rfl (pv_move (v := .tuple _) rfl rfl) ?_
          refine xl_pure rfl rfl rfl (pv_extract (v := .agg _) rfl rfl rfl) ?_
          refine xl_pure rfl rfl rfl (pv_extract (v := .int _ _) rfl rfl rfl) ?_
          refine xl_heavy rfl rfl rfl (hv_alloc rfl rfl) ?_
          rintro v5_5 H5_5 ⟨b5_5, rfl, hN5_5⟩
          have gb5_5 := hX.fresh hN5_5
          have gb5_5_hX5_1 := hX5_1.fresh hN5_5
          have nm0_0_5_5 := m0_0.apart hN5_5
          have m0_0 := m0_0.ext hN5_5.ext
          have hX := hX.trans hN5_5.ext
          have hX5_1 := hX5_1.trans hN5_5.ext
          have m5_5 := hN5_5.blk
          refine xl_store rfl rfl (hv_storeA (vs := [.int _ _, .int _ _, .int _ _, .int _ _, .int _ _, .int _ _, .int _ _, .int _ _, .int _ _, .int _ _, .int _ _, .slice _ _ _, .int _ _, .int _ _, .int _ _, .int _ _]) rfl rfl rfl (m5_5) rfl (by rfl) rfl) ?_
          rintro v5_6 H5_6 ⟨hU5_6, hZ5_6⟩
          have hX5_1 := hX5_1.upd hU5_6.but gb5_5_hX5_1
          have m0_0 := m0_0.off hU5_6.but (nm0_0_5_5)
          have hX := hX.upd hU5_6.but gb5_5
          have m5_5 := hU5_6.blk
          refine xl_pure rfl rfl rfl (pv_assign (v := .int _ _) rfl rfl) ?_
          refine xl_nil ?_
          refine xthen_normal ?_
          refine xc_seq ?_
          refine xc_region ?_
          refine xl_pure rfl rfl rfl (pv_move (v := .string (bs _)) rfl rfl) ?_
          refine xl_heavy rfl rfl rfl (hv_call (g := 20) rfl rfl (c20 s (by omega)) rfl) ?_
          rintro v6_1 H6_1 ⟨r6_1, x6_1, a6_1, c6_1, rfl, hd6_1, hs6_1, hg6_1, hE6_1⟩
          have m0_0 := m0_0.ext hE6_1
          have m5_5 := m5_5.ext hE6_1
          have hX := hX.trans hE6_1
          have hX5_1 := hX5_1.trans hE6_1
          have hX6_1 := Ext.refl H6_1
          have q6_1 := hd5_1.trans hd6_1.symm
          simp only [Prod.mk.injEq] at q6_1
          obtain ⟨rfl, rfl⟩ := q6_1
          refine xl_pure rfl rfl rfl (pv_move (v := .tuple _) rfl rfl) ?_
          refine xl_pure rfl rfl rfl (pv_extract (v := .agg _) rfl rfl rfl) ?_
          refine xl_pure rfl rfl rfl (pv_extract (v := .int _ _) rfl rfl rfl) ?_
          refine xl_heavy rfl rfl rfl (hv_alloc rfl rfl) ?_
          rintro v6_5 H6_5 ⟨b6_5, rfl, hN6_5⟩
          have gb6_5 := hX.fresh hN6_5
          have gb6_5_hX5_1 := hX5_1.fresh hN6_5
          have gb6_5_hX6_1 := hX6_1.fresh hN6_5
          have nm0_0_6_5 := m0_0.apart hN6_5
          have nm5_5_6_5 := m5_5.apart hN6_5
          have m0_0 := m0_0.ext hN6_5.ext
          have m5_5 := m5_5.ext hN6_5.ext
          have hX := hX.trans hN6_5.ext
          have hX5_1 := hX5_1.trans hN6_5.ext
          have hX6_1 := hX6_1.trans hN6_5.ext
          have m6_5 := hN6_5.blk
          refine xl_store rfl rfl (hv_storeA (vs := [.int _ _, .int _ _, .int _ _, .int _ _, .int _ _, .int _ _, .int _ _, .int _ _, .int _ _, .int _ _, .int _ _, .slice _ _ _, .int _ _, .int _ _, .int _ _, .int _ _]) rfl rfl rfl (m6_5) rfl (by rfl) rfl) ?_
          rintro v6_6 H6_6 ⟨hU6_6, hZ6_6⟩
          have hX5_1 := hX5_1.upd hU6_6.but gb6_5_hX5_1
          have hX6_1 := hX6_1.upd hU6_6.but gb6_5_hX6_1
          have m0_0 := m0_0.off hU6_6.but (nm0_0_6_5)
          have m5_5 := m5_5.off hU6_6.but (nm5_5_6_5)
          have hX := hX.upd hU6_6.but gb6_5
          have m6_5 := hU6_6.blk
          refine xl_pure rfl rfl rfl (pv_assign (v := .int _ _) rfl rfl) ?_
          refine xl_nil ?_
          refine xthen_normal ?_
          refine xc_seq ?_
          refine xc_seq ?_
          refine xc_region ?_
          refine xl_pure rfl rfl rfl (pv_move (v := .string (bs _)) rfl rfl) ?_
          refine xl_pure rfl rfl rfl (pv_move (v := .string (bs _)) rfl rfl) ?_
          refine xl_ndec rfl rfl rfl (pv_neq_s rfl rfl rfl) (fun h7_2 => ?_) (fun h7_2 => ?_)
          · skip
            refine xl_pure rfl rfl rfl (pv_move (v := .bool _) rfl rfl) ?_
            refine xl_pure rfl rfl rfl (pv_move (v := .int _ _) rfl rfl) ?_
            refine xl_pure rfl rfl rfl (pv_move (v := .int _ _) rfl rfl) ?_
            refine xl_ndec rfl rfl rfl (pv_neq rfl rfl rfl) (fun h7_6 => ?_) (fun h7_6 => ?_)
            · skip
              refine xl_pure rfl rfl rfl (pv_pick_f (v := .bool _) rfl rfl rfl) ?_
              refine xl_pure rfl rfl rfl (pv_move (v := .bool _) rfl rfl) ?_
              refine xl_light rfl rfl rfl (lv_load (v := .agg _) rfl rfl (ld_blk_a m5_5 rfl rfl)) ?_
              refine xl_light rfl rfl rfl (lv_load (v := .agg _) rfl rfl (ld_blk_a m6_5 rfl rfl)) ?_
              refine xl_heavy rfl rfl rfl (hv_call (g := 9) rfl rfl (c9 x5_1 x5_1 _ _ _ _ (hs5_1.ext hX5_1) (hs6_1.ext hX6_1) (Nat.lt_of_le_of_lt hg5_1 (by decide))) rfl) ?_
              rintro v7_11 H7_11 ⟨r7_11, rfl, hb7_11, hE7_11⟩
              have m0_0 := m0_0.ext hE7_11
              have m5_5 := m5_5.ext hE7_11
              have m6_5 := m6_5.ext hE7_11
              have hX := hX.trans hE7_11
              have hX5_1 := hX5_1.trans hE7_11
              have hX6_1 := hX6_1.trans hE7_11
              obtain rfl : r7_11 = true := hb7_11.2 rfl
              refine xl_pure rfl rfl rfl (pv_not rfl rfl) ?_
              refine xl_pure rfl rfl rfl (pv_pick_f (v := .bool _) rfl rfl rfl) ?_
              refine xl_pure rfl rfl rfl (pv_move (v := .bool _) rfl rfl) ?_
              refine xl_pure rfl rfl rfl (pv_move (v := .int _ _) rfl rfl) ?_
              refine xl_pure rfl rfl rfl (pv_move (v := .int _ _) rfl rfl) ?_
              refine xl_ndec rfl rfl rfl (pv_neq rfl rfl rfl) (fun h7_17 => ?_) (fun h7_17 => ?_)
              · skip
                refine xl_pure rfl rfl rfl (pv_pick_f (v := .bool _) rfl rfl rfl) ?_
                refine xl_nil ?_
                refine xthen_normal ?_
                refine xc_cond_f rfl ?_
                refine xc_skip ?_
                refine xthen_normal ?_
                refine xc_seq ?_
                refine xc_region ?_
                refine xl_pure rfl rfl rfl (pv_move (v := .string (bs _)) rfl rfl) ?_
                refine xl_heavy rfl rfl rfl (hv_call (g := 19) rfl rfl (c19 []) rfl) ?_
                rintro v9_1 H9_1 ⟨r9_1, x9_1, a9_1, c9_1, rfl, hd9_1, hs9_1, hg9_1, hE9_1⟩
                have m0_0 := m0_0.ext hE9_1
                have m5_5 := m5_5.ext hE9_1
                have m6_5 := m6_5.ext hE9_1
                have hX := hX.trans hE9_1
                have hX5_1 := hX5_1.trans hE9_1
                have hX6_1 := hX6_1.trans hE9_1
                refine xl_pure rfl rfl rfl (pv_move (v := .tuple _) rfl rfl) ?_
                refine xl_pure rfl rfl rfl (pv_extract (v := .agg _) rfl rfl rfl) ?_
                refine xl_pure rfl rfl rfl (pv_extract (v := .int _ _) rfl rfl rfl) ?_
                refine xl_heavy rfl rfl rfl (hv_alloc rfl rfl) ?_
                rintro v9_5 H9_5 ⟨b9_5, rfl, hN9_5⟩
                have gb9_5 := hX.fresh hN9_5
                have gb9_5_hX5_1 := hX5_1.fresh hN9_5
                have gb9_5_hX6_1 := hX6_1.fresh hN9_5
                have nm0_0_9_5 := m0_0.apart hN9_5
                have nm5_5_9_5 := m5_5.apart hN9_5
                have nm6_5_9_5 := m6_5.apart hN9_5
                have m0_0 := m0_0.ext hN9_5.ext
                have m5_5 := m5_5.ext hN9_5.ext
                have m6_5 := m6_5.ext hN9_5.ext
                have hX := hX.trans hN9_5.ext
                have hX5_1 := hX5_1.trans hN9_5.ext
                have hX6_1 := hX6_1.trans hN9_5.ext
                have m9_5 := hN9_5.blk
                refine xl_store rfl rfl (hv_storeA (vs := [.int _ _, .int _ _, .int _ _, .int _ _, .int _ _, .int _ _, .int _ _, .int _ _, .int _ _, .int _ _, .int _ _, .slice _ _ _, .int _ _, .int _ _, .int _ _, .int _ _]) rfl rfl rfl (m9_5) rfl (by rfl) rfl) ?_
                rintro v9_6 H9_6 ⟨hU9_6, hZ9_6⟩
                have hX5_1 := hX5_1.upd hU9_6.but gb9_5_hX5_1
                have hX6_1 := hX6_1.upd hU9_6.but gb9_5_hX6_1
                have m0_0 := m0_0.off hU9_6.but (nm0_0_9_5)
                have m5_5 := m5_5.off hU9_6.but (nm5_5_9_5)
                have m6_5 := m6_5.off hU9_6.but (nm6_5_9_5)
                have hX := hX.upd hU9_6.but gb9_5
                have m9_5 := hU9_6.blk
                refine xl_pure rfl rfl rfl (pv_assign (v := .int _ _) rfl rfl) ?_
                refine xl_nil ?_
                refine xthen_normal ?_
                refine xc_seq ?_
                refine xc_region ?_
                refine xl_light rfl rfl rfl (lv_load (v := .agg _) rfl rfl (ld_blk_a m5_5 rfl rfl)) ?_
                refine xl_heavy rfl rfl rfl (hv_call (g := 17) rfl rfl (c17 x5_1 _ _ (hs5_1.ext hX5_1) (Nat.le_trans hg5_1 (by decide))) rfl) ?_
                rintro v10_1 H10_1 ⟨hc10_1, hE10_1⟩
                have m0_0 := m0_0.ext hE10_1
                have m5_5 := m5_5.ext hE10_1
                have m6_5 := m6_5.ext hE10_1
                have m9_5 := m9_5.ext hE10_1
                have hX := hX.trans hE10_1
                have hX5_1 := hX5_1.trans hE10_1
                have hX6_1 := hX6_1.trans hE10_1
                obtain rfl : v10_1 = .tuple #[.string (bs (putB x5_1)), .int .i64 0] := by
                  rcases hc10_1 with ⟨h1, h⟩ | ⟨h1, h⟩
                  · exact absurd hpt.1 h1
                  · exact h
                refine xl_pure rfl rfl rfl (pv_move (v := .tuple _) rfl rfl) ?_
                refine xl_pure rfl rfl rfl (pv_extract (v := .string (bs _)) rfl rfl rfl) ?_
                refine xl_pure rfl rfl rfl (pv_extract (v := .int _ _) rfl rfl rfl) ?_
                refine xl_pure rfl rfl rfl (pv_assign (v := .string (bs _)) rfl rfl) ?_
                refine xl_pure rfl rfl rfl (pv_assign (v := .int _ _) rfl rfl) ?_
                refine xl_nil ?_
                refine xthen_normal ?_
                refine xc_seq ?_
                refine xc_region ?_
                refine xl_pure rfl rfl rfl (pv_move (v := .int _ _) rfl rfl) ?_
                refine xl_ndec rfl rfl rfl (pv_neq rfl rfl rfl) (fun h11_1 => ?_) (fun h11_1 => ?_)
                · exact absurd h11_1 (by decide)
                · skip
                  refine xl_pure rfl rfl rfl (pv_move (v := .bool _) rfl rfl) ?_
                  refine xl_skip rfl rfl rfl ?_
                  refine xl_skip rfl rfl rfl ?_
                  refine xl_skip rfl rfl rfl ?_
                  refine xl_skip rfl rfl rfl ?_
                  refine xl_skip rfl rfl rfl ?_
                  refine xl_skip rfl rfl rfl ?_
                  refine xl_skip rfl rfl rfl ?_
                  refine xl_pure rfl rfl rfl (pv_pick_t (v := .bool _) rfl rfl rfl) ?_
                  refine xl_pure rfl rfl rfl (pv_move (v := .bool _) rfl rfl) ?_
                  refine xl_pure rfl rfl rfl (pv_move (v := .int _ _) rfl rfl) ?_
                  refine xl_ndec rfl rfl rfl (pv_neq rfl rfl rfl) (fun h11_13 => ?_) (fun h11_13 => ?_)
                  · skip
                    refine xl_pure rfl rfl rfl (pv_move (v := .bool _) rfl rfl) ?_
                    refine xl_pure rfl rfl rfl (pv_move (v := .int _ _) rfl rfl) ?_
                    refine xl_dec rfl rfl rfl (pv_eql rfl rfl rfl) (fun h11_16 => ?_) (fun h11_16 => ?_)
                    · skip
                      refine xl_pure rfl rfl rfl (pv_move (v := .bool _) rfl rfl) ?_
                      refine xl_pure rfl rfl rfl (pv_move (v := .string (bs _)) rfl rfl) ?_
                      refine xl_pure rfl rfl rfl (pv_move (v := .string (bs _)) rfl rfl) ?_
                      refine xl_dec rfl rfl rfl (pv_eql_s rfl rfl rfl) (fun h11_20 => ?_) (fun h11_20 => ?_)
                      · skip
                        refine xl_pure rfl rfl rfl (pv_pick_t (v := .bool _) rfl rfl rfl) ?_
                        refine xl_pure rfl rfl rfl (pv_pick_f (v := .bool _) rfl rfl rfl) ?_
                        refine xl_pure rfl rfl rfl (pv_pick_t (v := .bool _) rfl rfl rfl) ?_
                        refine xl_pure rfl rfl rfl (pv_move (v := .bool _) rfl rfl) ?_
                        refine xl_heavy rfl rfl rfl (hv_call (g := 6) rfl rfl (c6) rfl) ?_
                        rintro v11_25 H11_25 ⟨rfl, hE11_25⟩
                        have m0_0 := m0_0.ext hE11_25
                        have m5_5 := m5_5.ext hE11_25
                        have m6_5 := m6_5.ext hE11_25
                        have m9_5 := m9_5.ext hE11_25
                        have hX := hX.trans hE11_25
                        have hX5_1 := hX5_1.trans hE11_25
                        have hX6_1 := hX6_1.trans hE11_25
                        refine xl_pure rfl rfl rfl (pv_pick_t (v := .bool _) rfl rfl rfl) ?_
                        refine xl_pure rfl rfl rfl (pv_assign (v := .bool _) rfl rfl) ?_
                        refine xl_nil ?_
                        refine xthen_normal ?_
                        refine xc_ret ?_
                        refine fin_ret (res1 (v := .bool _) rfl rfl) ?_
                        exact ⟨rfl, hX⟩
                      · exact absurd hpt.2 h11_20
                    · exact absurd (by decide) h11_16
                  · exact absurd (by decide) h11_13
              · exact absurd (by decide) h7_17
            · exact absurd (by decide) h7_6
          · exact absurd rfl h7_2
        · skip
          refine xl_pure rfl rfl rfl (pv_move (v := .tuple _) rfl rfl) ?_
          refine xl_pure rfl rfl rfl (pv_extract (v := .agg _) rfl rfl rfl) ?_
          refine xl_pure rfl rfl rfl (pv_extract (v := .int _ _) rfl rfl rfl) ?_
          refine xl_heavy rfl rfl rfl (hv_alloc rfl rfl) ?_
          rintro v5_5 H5_5 ⟨b5_5, rfl, hN5_5⟩
          have gb5_5 := hX.fresh hN5_5
          have gb5_5_hX5_1 := hX5_1.fresh hN5_5
          have nm0_0_5_5 := m0_0.apart hN5_5
          have m0_0 := m0_0.ext hN5_5.ext
          have hX := hX.trans hN5_5.ext
          have hX5_1 := hX5_1.trans hN5_5.ext
          have m5_5 := hN5_5.blk
          refine xl_store rfl rfl (hv_storeA (vs := [.int _ _, .int _ _, .int _ _, .int _ _, .int _ _, .int _ _, .int _ _, .int _ _, .int _ _, .int _ _, .int _ _, .slice _ _ _, .int _ _, .int _ _, .int _ _, .int _ _]) rfl rfl rfl (m5_5) rfl (by rfl) rfl) ?_
          rintro v5_6 H5_6 ⟨hU5_6, hZ5_6⟩
          have hX5_1 := hX5_1.upd hU5_6.but gb5_5_hX5_1
          have m0_0 := m0_0.off hU5_6.but (nm0_0_5_5)
          have hX := hX.upd hU5_6.but gb5_5
          have m5_5 := hU5_6.blk
          refine xl_pure rfl rfl rfl (pv_assign (v := .int _ _) rfl rfl) ?_
          refine xl_nil ?_
          refine xthen_normal ?_
          refine xc_seq ?_
          refine xc_region ?_
          refine xl_pure rfl rfl rfl (pv_move (v := .string (bs _)) rfl rfl) ?_
          refine xl_heavy rfl rfl rfl (hv_call (g := 20) rfl rfl (c20 s (by omega)) rfl) ?_
          rintro v6_1 H6_1 ⟨r6_1, x6_1, a6_1, c6_1, rfl, hd6_1, hs6_1, hg6_1, hE6_1⟩
          have m0_0 := m0_0.ext hE6_1
          have m5_5 := m5_5.ext hE6_1
          have hX := hX.trans hE6_1
          have hX5_1 := hX5_1.trans hE6_1
          have hX6_1 := Ext.refl H6_1
          have q6_1 := hd5_1.trans hd6_1.symm
          simp only [Prod.mk.injEq] at q6_1
          obtain ⟨rfl, rfl⟩ := q6_1
          refine xl_pure rfl rfl rfl (pv_move (v := .tuple _) rfl rfl) ?_
          refine xl_pure rfl rfl rfl (pv_extract (v := .agg _) rfl rfl rfl) ?_
          refine xl_pure rfl rfl rfl (pv_extract (v := .int _ _) rfl rfl rfl) ?_
          refine xl_heavy rfl rfl rfl (hv_alloc rfl rfl) ?_
          rintro v6_5 H6_5 ⟨b6_5, rfl, hN6_5⟩
          have gb6_5 := hX.fresh hN6_5
          have gb6_5_hX5_1 := hX5_1.fresh hN6_5
          have gb6_5_hX6_1 := hX6_1.fresh hN6_5
          have nm0_0_6_5 := m0_0.apart hN6_5
          have nm5_5_6_5 := m5_5.apart hN6_5
          have m0_0 := m0_0.ext hN6_5.ext
          have m5_5 := m5_5.ext hN6_5.ext
          have hX := hX.trans hN6_5.ext
          have hX5_1 := hX5_1.trans hN6_5.ext
          have hX6_1 := hX6_1.trans hN6_5.ext
          have m6_5 := hN6_5.blk
          refine xl_store rfl rfl (hv_storeA (vs := [.int _ _, .int _ _, .int _ _, .int _ _, .int _ _, .int _ _, .int _ _, .int _ _, .int _ _, .int _ _, .int _ _, .slice _ _ _, .int _ _, .int _ _, .int _ _, .int _ _]) rfl rfl rfl (m6_5) rfl (by rfl) rfl) ?_
          rintro v6_6 H6_6 ⟨hU6_6, hZ6_6⟩
          have hX5_1 := hX5_1.upd hU6_6.but gb6_5_hX5_1
          have hX6_1 := hX6_1.upd hU6_6.but gb6_5_hX6_1
          have m0_0 := m0_0.off hU6_6.but (nm0_0_6_5)
          have m5_5 := m5_5.off hU6_6.but (nm5_5_6_5)
          have hX := hX.upd hU6_6.but gb6_5
          have m6_5 := hU6_6.blk
          refine xl_pure rfl rfl rfl (pv_assign (v := .int _ _) rfl rfl) ?_
          refine xl_nil ?_
          refine xthen_normal ?_
          refine xc_seq ?_
          refine xc_seq ?_
          refine xc_region ?_
          refine xl_pure rfl rfl rfl (pv_move (v := .string (bs _)) rfl rfl) ?_
          refine xl_pure rfl rfl rfl (pv_move (v := .string (bs _)) rfl rfl) ?_
          refine xl_ndec rfl rfl rfl (pv_neq_s rfl rfl rfl) (fun h7_2 => ?_) (fun h7_2 => ?_)
          · skip
            refine xl_pure rfl rfl rfl (pv_move (v := .bool _) rfl rfl) ?_
            refine xl_pure rfl rfl rfl (pv_move (v := .int _ _) rfl rfl) ?_
            refine xl_pure rfl rfl rfl (pv_move (v := .int _ _) rfl rfl) ?_
            refine xl_ndec rfl rfl rfl (pv_neq rfl rfl rfl) (fun h7_6 => ?_) (fun h7_6 => ?_)
            · skip
              refine xl_pure rfl rfl rfl (pv_pick_f (v := .bool _) rfl rfl rfl) ?_
              refine xl_pure rfl rfl rfl (pv_move (v := .bool _) rfl rfl) ?_
              refine xl_light rfl rfl rfl (lv_load (v := .agg _) rfl rfl (ld_blk_a m5_5 rfl rfl)) ?_
              refine xl_light rfl rfl rfl (lv_load (v := .agg _) rfl rfl (ld_blk_a m6_5 rfl rfl)) ?_
              refine xl_heavy rfl rfl rfl (hv_call (g := 9) rfl rfl (c9 J0 J0 _ _ _ _ (hs5_1.ext hX5_1) (hs6_1.ext hX6_1) (Nat.lt_of_le_of_lt hg5_1 (by decide))) rfl) ?_
              rintro v7_11 H7_11 ⟨r7_11, rfl, hb7_11, hE7_11⟩
              have m0_0 := m0_0.ext hE7_11
              have m5_5 := m5_5.ext hE7_11
              have m6_5 := m6_5.ext hE7_11
              have hX := hX.trans hE7_11
              have hX5_1 := hX5_1.trans hE7_11
              have hX6_1 := hX6_1.trans hE7_11
              obtain rfl : r7_11 = true := hb7_11.2 rfl
              refine xl_pure rfl rfl rfl (pv_not rfl rfl) ?_
              refine xl_pure rfl rfl rfl (pv_pick_f (v := .bool _) rfl rfl rfl) ?_
              refine xl_pure rfl rfl rfl (pv_move (v := .bool _) rfl rfl) ?_
              refine xl_pure rfl rfl rfl (pv_move (v := .int _ _) rfl rfl) ?_
              refine xl_pure rfl rfl rfl (pv_move (v := .int _ _) rfl rfl) ?_
              refine xl_ndec rfl rfl rfl (pv_neq rfl rfl rfl) (fun h7_17 => ?_) (fun h7_17 => ?_)
              · skip
                refine xl_pure rfl rfl rfl (pv_pick_f (v := .bool _) rfl rfl rfl) ?_
                refine xl_nil ?_
                refine xthen_normal ?_
                refine xc_cond_f rfl ?_
                refine xc_skip ?_
                refine xthen_normal ?_
                refine xc_seq ?_
                refine xc_region ?_
                refine xl_pure rfl rfl rfl (pv_move (v := .string (bs _)) rfl rfl) ?_
                refine xl_heavy rfl rfl rfl (hv_call (g := 19) rfl rfl (c19 []) rfl) ?_
                rintro v9_1 H9_1 ⟨r9_1, x9_1, a9_1, c9_1, rfl, hd9_1, hs9_1, hg9_1, hE9_1⟩
                have m0_0 := m0_0.ext hE9_1
                have m5_5 := m5_5.ext hE9_1
                have m6_5 := m6_5.ext hE9_1
                have hX := hX.trans hE9_1
                have hX5_1 := hX5_1.trans hE9_1
                have hX6_1 := hX6_1.trans hE9_1
                refine xl_pure rfl rfl rfl (pv_move (v := .tuple _) rfl rfl) ?_
                refine xl_pure rfl rfl rfl (pv_extract (v := .agg _) rfl rfl rfl) ?_
                refine xl_pure rfl rfl rfl (pv_extract (v := .int _ _) rfl rfl rfl) ?_
                refine xl_heavy rfl rfl rfl (hv_alloc rfl rfl) ?_
                rintro v9_5 H9_5 ⟨b9_5, rfl, hN9_5⟩
                have gb9_5 := hX.fresh hN9_5
                have gb9_5_hX5_1 := hX5_1.fresh hN9_5
                have gb9_5_hX6_1 := hX6_1.fresh hN9_5
                have nm0_0_9_5 := m0_0.apart hN9_5
                have nm5_5_9_5 := m5_5.apart hN9_5
                have nm6_5_9_5 := m6_5.apart hN9_5
                have m0_0 := m0_0.ext hN9_5.ext
                have m5_5 := m5_5.ext hN9_5.ext
                have m6_5 := m6_5.ext hN9_5.ext
                have hX := hX.trans hN9_5.ext
                have hX5_1 := hX5_1.trans hN9_5.ext
                have hX6_1 := hX6_1.trans hN9_5.ext
                have m9_5 := hN9_5.blk
                refine xl_store rfl rfl (hv_storeA (vs := [.int _ _, .int _ _, .int _ _, .int _ _, .int _ _, .int _ _, .int _ _, .int _ _, .int _ _, .int _ _, .int _ _, .slice _ _ _, .int _ _, .int _ _, .int _ _, .int _ _]) rfl rfl rfl (m9_5) rfl (by rfl) rfl) ?_
                rintro v9_6 H9_6 ⟨hU9_6, hZ9_6⟩
                have hX5_1 := hX5_1.upd hU9_6.but gb9_5_hX5_1
                have hX6_1 := hX6_1.upd hU9_6.but gb9_5_hX6_1
                have m0_0 := m0_0.off hU9_6.but (nm0_0_9_5)
                have m5_5 := m5_5.off hU9_6.but (nm5_5_9_5)
                have m6_5 := m6_5.off hU9_6.but (nm6_5_9_5)
                have hX := hX.upd hU9_6.but gb9_5
                have m9_5 := hU9_6.blk
                refine xl_pure rfl rfl rfl (pv_assign (v := .int _ _) rfl rfl) ?_
                refine xl_nil ?_
                refine xthen_normal ?_
                refine xc_seq ?_
                refine xc_region ?_
                refine xl_light rfl rfl rfl (lv_load (v := .agg _) rfl rfl (ld_blk_a m5_5 rfl rfl)) ?_
                refine xl_heavy rfl rfl rfl (hv_call (g := 17) rfl rfl (c17 J0 _ _ (hs5_1.ext hX5_1) (Nat.le_trans hg5_1 (by decide))) rfl) ?_
                rintro v10_1 H10_1 ⟨hc10_1, hE10_1⟩
                have m0_0 := m0_0.ext hE10_1
                have m5_5 := m5_5.ext hE10_1
                have m6_5 := m6_5.ext hE10_1
                have m9_5 := m9_5.ext hE10_1
                have hX := hX.trans hE10_1
                have hX5_1 := hX5_1.trans hE10_1
                have hX6_1 := hX6_1.trans hE10_1
                obtain rfl : v10_1 = .tuple #[.string (bs []), .int .i64 1] := by
                  rcases hc10_1 with ⟨h1, h⟩ | ⟨h1, h⟩
                  · exact h
                  · exact absurd h1 (by decide)
                refine xl_pure rfl rfl rfl (pv_move (v := .tuple _) rfl rfl) ?_
                refine xl_pure rfl rfl rfl (pv_extract (v := .string (bs _)) rfl rfl rfl) ?_
                refine xl_pure rfl rfl rfl (pv_extract (v := .int _ _) rfl rfl rfl) ?_
                refine xl_pure rfl rfl rfl (pv_assign (v := .string (bs _)) rfl rfl) ?_
                refine xl_pure rfl rfl rfl (pv_assign (v := .int _ _) rfl rfl) ?_
                refine xl_nil ?_
                refine xthen_normal ?_
                refine xc_seq ?_
                refine xc_region ?_
                refine xl_pure rfl rfl rfl (pv_move (v := .int _ _) rfl rfl) ?_
                refine xl_ndec rfl rfl rfl (pv_neq rfl rfl rfl) (fun h11_1 => ?_) (fun h11_1 => ?_)
                · exact absurd h11_1 (by decide)
                · skip
                  refine xl_pure rfl rfl rfl (pv_move (v := .bool _) rfl rfl) ?_
                  refine xl_skip rfl rfl rfl ?_
                  refine xl_skip rfl rfl rfl ?_
                  refine xl_skip rfl rfl rfl ?_
                  refine xl_skip rfl rfl rfl ?_
                  refine xl_skip rfl rfl rfl ?_
                  refine xl_skip rfl rfl rfl ?_
                  refine xl_skip rfl rfl rfl ?_
                  refine xl_pure rfl rfl rfl (pv_pick_t (v := .bool _) rfl rfl rfl) ?_
                  refine xl_pure rfl rfl rfl (pv_move (v := .bool _) rfl rfl) ?_
                  refine xl_pure rfl rfl rfl (pv_move (v := .int _ _) rfl rfl) ?_
                  refine xl_ndec rfl rfl rfl (pv_neq rfl rfl rfl) (fun h11_13 => ?_) (fun h11_13 => ?_)
                  · exact absurd h11_13 (by decide)
                  · skip
                    refine xl_pure rfl rfl rfl (pv_move (v := .bool _) rfl rfl) ?_
                    refine xl_skip rfl rfl rfl ?_
                    refine xl_skip rfl rfl rfl ?_
                    refine xl_skip rfl rfl rfl ?_
                    refine xl_skip rfl rfl rfl ?_
                    refine xl_skip rfl rfl rfl ?_
                    refine xl_skip rfl rfl rfl ?_
                    refine xl_skip rfl rfl rfl ?_
                    refine xl_pure rfl rfl rfl (pv_pick_t (v := .bool _) rfl rfl rfl) ?_
                    refine xl_pure rfl rfl rfl (pv_pick_t (v := .bool _) rfl rfl rfl) ?_
                    refine xl_pure rfl rfl rfl (pv_move (v := .bool _) rfl rfl) ?_
                    refine xl_heavy rfl rfl rfl (hv_call (g := 6) rfl rfl (c6) rfl) ?_
                    rintro v11_25 H11_25 ⟨rfl, hE11_25⟩
                    have m0_0 := m0_0.ext hE11_25
                    have m5_5 := m5_5.ext hE11_25
                    have m6_5 := m6_5.ext hE11_25
                    have m9_5 := m9_5.ext hE11_25
                    have hX := hX.trans hE11_25
                    have hX5_1 := hX5_1.trans hE11_25
                    have hX6_1 := hX6_1.trans hE11_25
                    refine xl_pure rfl rfl rfl (pv_pick_t (v := .bool _) rfl rfl rfl) ?_
                    refine xl_pure rfl rfl rfl (pv_assign (v := .bool _) rfl rfl) ?_
                    refine xl_nil ?_
                    refine xthen_normal ?_
                    refine xc_ret ?_
                    refine fin_ret (res1 (v := .bool _) rfl rfl) ?_
                    exact ⟨rfl, hX⟩
              · exact absurd (by decide) h7_17
            · exact absurd (by decide) h7_6
          · exact absurd rfl h7_2
      · skip
        refine xl_pure rfl rfl rfl (pv_move (v := .tuple _) rfl rfl) ?_
        refine xl_pure rfl rfl rfl (pv_extract (v := .string (bs _)) rfl rfl rfl) ?_
        refine xl_pure rfl rfl rfl (pv_extract (v := .int _ _) rfl rfl rfl) ?_
        refine xl_pure rfl rfl rfl (pv_assign (v := .string (bs _)) rfl rfl) ?_
        refine xl_pure rfl rfl rfl (pv_assign (v := .int _ _) rfl rfl) ?_
        refine xl_nil ?_
        refine xthen_normal ?_
        refine xc_seq ?_
        refine xc_region ?_
        refine xl_light rfl rfl rfl (lv_load (v := .agg _) rfl rfl (ld_blk_a m0_0 rfl rfl)) ?_
        refine xl_heavy rfl rfl rfl (hv_call (g := 18) rfl rfl (c18 j a c (hs.ext hX) (by omega)) rfl) ?_
        rintro v4_1 H4_1 ⟨hc4_1, hE4_1⟩
        have m0_0 := m0_0.ext hE4_1
        have hX := hX.trans hE4_1
        obtain rfl : v4_1 = .tuple #[.string (bs (putB j)), .int .i64 0] := by
          rcases hc4_1 with ⟨h1, h⟩ | ⟨h1, h⟩
          · exact absurd hgd h1
          · exact h
        refine xl_pure rfl rfl rfl (pv_move (v := .tuple _) rfl rfl) ?_
        refine xl_pure rfl rfl rfl (pv_extract (v := .string (bs _)) rfl rfl rfl) ?_
        refine xl_pure rfl rfl rfl (pv_extract (v := .int _ _) rfl rfl rfl) ?_
        refine xl_pure rfl rfl rfl (pv_assign (v := .string (bs _)) rfl rfl) ?_
        refine xl_pure rfl rfl rfl (pv_assign (v := .int _ _) rfl rfl) ?_
        refine xl_nil ?_
        refine xthen_normal ?_
        refine xc_seq ?_
        refine xc_region ?_
        refine xl_pure rfl rfl rfl (pv_move (v := .string (bs _)) rfl rfl) ?_
        refine xl_heavy rfl rfl rfl (hv_call (g := 19) rfl rfl (c19 s) rfl) ?_
        rintro v5_1 H5_1 ⟨r5_1, x5_1, a5_1, c5_1, rfl, hd5_1, hs5_1, hg5_1, hE5_1⟩
        have m0_0 := m0_0.ext hE5_1
        have hX := hX.trans hE5_1
        have hX5_1 := Ext.refl H5_1
        rcases read_split hd5_1 with ⟨rfl, hpt⟩ | ⟨rfl, rfl⟩
        · skip
          refine xl_pure rfl rfl rfl (pv_move (v := .tuple _) rfl rfl) ?_
          refine xl_pure rfl rfl rfl (pv_extract (v := .agg _) rfl rfl rfl) ?_
          refine xl_pure rfl rfl rfl (pv_extract (v := .int _ _) rfl rfl rfl) ?_
          refine xl_heavy rfl rfl rfl (hv_alloc rfl rfl) ?_
          rintro v5_5 H5_5 ⟨b5_5, rfl, hN5_5⟩
          have gb5_5 := hX.fresh hN5_5
          have gb5_5_hX5_1 := hX5_1.fresh hN5_5
          have nm0_0_5_5 := m0_0.apart hN5_5
          have m0_0 := m0_0.ext hN5_5.ext
          have hX := hX.trans hN5_5.ext
          have hX5_1 := hX5_1.trans hN5_5.ext
          have m5_5 := hN5_5.blk
          refine xl_store rfl rfl (hv_storeA (vs := [.int _ _, .int _ _, .int _ _, .int _ _, .int _ _, .int _ _, .int _ _, .int _ _, .int _ _, .int _ _, .int _ _, .slice _ _ _, .int _ _, .int _ _, .int _ _, .int _ _]) rfl rfl rfl (m5_5) rfl (by rfl) rfl) ?_
          rintro v5_6 H5_6 ⟨hU5_6, hZ5_6⟩
          have hX5_1 := hX5_1.upd hU5_6.but gb5_5_hX5_1
          have m0_0 := m0_0.off hU5_6.but (nm0_0_5_5)
          have hX := hX.upd hU5_6.but gb5_5
          have m5_5 := hU5_6.blk
          refine xl_pure rfl rfl rfl (pv_assign (v := .int _ _) rfl rfl) ?_
          refine xl_nil ?_
          refine xthen_normal ?_
          refine xc_seq ?_
          refine xc_region ?_
          refine xl_pure rfl rfl rfl (pv_move (v := .string (bs _)) rfl rfl) ?_
          refine xl_heavy rfl rfl rfl (hv_call (g := 20) rfl rfl (c20 s (by omega)) rfl) ?_
          rintro v6_1 H6_1 ⟨r6_1, x6_1, a6_1, c6_1, rfl, hd6_1, hs6_1, hg6_1, hE6_1⟩
          have m0_0 := m0_0.ext hE6_1
          have m5_5 := m5_5.ext hE6_1
          have hX := hX.trans hE6_1
          have hX5_1 := hX5_1.trans hE6_1
          have hX6_1 := Ext.refl H6_1
          have q6_1 := hd5_1.trans hd6_1.symm
          simp only [Prod.mk.injEq] at q6_1
          obtain ⟨rfl, rfl⟩ := q6_1
          refine xl_pure rfl rfl rfl (pv_move (v := .tuple _) rfl rfl) ?_
          refine xl_pure rfl rfl rfl (pv_extract (v := .agg _) rfl rfl rfl) ?_
          refine xl_pure rfl rfl rfl (pv_extract (v := .int _ _) rfl rfl rfl) ?_
          refine xl_heavy rfl rfl rfl (hv_alloc rfl rfl) ?_
          rintro v6_5 H6_5 ⟨b6_5, rfl, hN6_5⟩
          have gb6_5 := hX.fresh hN6_5
          have gb6_5_hX5_1 := hX5_1.fresh hN6_5
          have gb6_5_hX6_1 := hX6_1.fresh hN6_5
          have nm0_0_6_5 := m0_0.apart hN6_5
          have nm5_5_6_5 := m5_5.apart hN6_5
          have m0_0 := m0_0.ext hN6_5.ext
          have m5_5 := m5_5.ext hN6_5.ext
          have hX := hX.trans hN6_5.ext
          have hX5_1 := hX5_1.trans hN6_5.ext
          have hX6_1 := hX6_1.trans hN6_5.ext
          have m6_5 := hN6_5.blk
          refine xl_store rfl rfl (hv_storeA (vs := [.int _ _, .int _ _, .int _ _, .int _ _, .int _ _, .int _ _, .int _ _, .int _ _, .int _ _, .int _ _, .int _ _, .slice _ _ _, .int _ _, .int _ _, .int _ _, .int _ _]) rfl rfl rfl (m6_5) rfl (by rfl) rfl) ?_
          rintro v6_6 H6_6 ⟨hU6_6, hZ6_6⟩
          have hX5_1 := hX5_1.upd hU6_6.but gb6_5_hX5_1
          have hX6_1 := hX6_1.upd hU6_6.but gb6_5_hX6_1
          have m0_0 := m0_0.off hU6_6.but (nm0_0_6_5)
          have m5_5 := m5_5.off hU6_6.but (nm5_5_6_5)
          have hX := hX.upd hU6_6.but gb6_5
          have m6_5 := hU6_6.blk
          refine xl_pure rfl rfl rfl (pv_assign (v := .int _ _) rfl rfl) ?_
          refine xl_nil ?_
          refine xthen_normal ?_
          refine xc_seq ?_
          refine xc_seq ?_
          refine xc_region ?_
          refine xl_pure rfl rfl rfl (pv_move (v := .string (bs _)) rfl rfl) ?_
          refine xl_pure rfl rfl rfl (pv_move (v := .string (bs _)) rfl rfl) ?_
          refine xl_ndec rfl rfl rfl (pv_neq_s rfl rfl rfl) (fun h7_2 => ?_) (fun h7_2 => ?_)
          · skip
            refine xl_pure rfl rfl rfl (pv_move (v := .bool _) rfl rfl) ?_
            refine xl_pure rfl rfl rfl (pv_move (v := .int _ _) rfl rfl) ?_
            refine xl_pure rfl rfl rfl (pv_move (v := .int _ _) rfl rfl) ?_
            refine xl_ndec rfl rfl rfl (pv_neq rfl rfl rfl) (fun h7_6 => ?_) (fun h7_6 => ?_)
            · skip
              refine xl_pure rfl rfl rfl (pv_pick_f (v := .bool _) rfl rfl rfl) ?_
              refine xl_pure rfl rfl rfl (pv_move (v := .bool _) rfl rfl) ?_
              refine xl_light rfl rfl rfl (lv_load (v := .agg _) rfl rfl (ld_blk_a m5_5 rfl rfl)) ?_
              refine xl_light rfl rfl rfl (lv_load (v := .agg _) rfl rfl (ld_blk_a m6_5 rfl rfl)) ?_
              refine xl_heavy rfl rfl rfl (hv_call (g := 9) rfl rfl (c9 x5_1 x5_1 _ _ _ _ (hs5_1.ext hX5_1) (hs6_1.ext hX6_1) (Nat.lt_of_le_of_lt hg5_1 (by decide))) rfl) ?_
              rintro v7_11 H7_11 ⟨r7_11, rfl, hb7_11, hE7_11⟩
              have m0_0 := m0_0.ext hE7_11
              have m5_5 := m5_5.ext hE7_11
              have m6_5 := m6_5.ext hE7_11
              have hX := hX.trans hE7_11
              have hX5_1 := hX5_1.trans hE7_11
              have hX6_1 := hX6_1.trans hE7_11
              obtain rfl : r7_11 = true := hb7_11.2 rfl
              refine xl_pure rfl rfl rfl (pv_not rfl rfl) ?_
              refine xl_pure rfl rfl rfl (pv_pick_f (v := .bool _) rfl rfl rfl) ?_
              refine xl_pure rfl rfl rfl (pv_move (v := .bool _) rfl rfl) ?_
              refine xl_pure rfl rfl rfl (pv_move (v := .int _ _) rfl rfl) ?_
              refine xl_pure rfl rfl rfl (pv_move (v := .int _ _) rfl rfl) ?_
              refine xl_ndec rfl rfl rfl (pv_neq rfl rfl rfl) (fun h7_17 => ?_) (fun h7_17 => ?_)
              · skip
                refine xl_pure rfl rfl rfl (pv_pick_f (v := .bool _) rfl rfl rfl) ?_
                refine xl_nil ?_
                refine xthen_normal ?_
                refine xc_cond_f rfl ?_
                refine xc_skip ?_
                refine xthen_normal ?_
                refine xc_seq ?_
                refine xc_region ?_
                refine xl_pure rfl rfl rfl (pv_move (v := .string (bs _)) rfl rfl) ?_
                refine xl_heavy rfl rfl rfl (hv_call (g := 19) rfl rfl (c19 (putB j)) rfl) ?_
                rintro v9_1 H9_1 ⟨r9_1, x9_1, a9_1, c9_1, rfl, hd9_1, hs9_1, hg9_1, hE9_1⟩
                have m0_0 := m0_0.ext hE9_1
                have m5_5 := m5_5.ext hE9_1
                have m6_5 := m6_5.ext hE9_1
                have hX := hX.trans hE9_1
                have hX5_1 := hX5_1.trans hE9_1
                have hX6_1 := hX6_1.trans hE9_1
                have hX9_1 := Ext.refl H9_1
                have q9_1 := (hd9_1.trans (put_read hgd)).symm
                simp only [Prod.mk.injEq] at q9_1
                obtain ⟨rfl, rfl⟩ := q9_1
                refine xl_pure rfl rfl rfl (pv_move (v := .tuple _) rfl rfl) ?_
                refine xl_pure rfl rfl rfl (pv_extract (v := .agg _) rfl rfl rfl) ?_
                refine xl_pure rfl rfl rfl (pv_extract (v := .int _ _) rfl rfl rfl) ?_
                refine xl_heavy rfl rfl rfl (hv_alloc rfl rfl) ?_
                rintro v9_5 H9_5 ⟨b9_5, rfl, hN9_5⟩
                have gb9_5 := hX.fresh hN9_5
                have gb9_5_hX5_1 := hX5_1.fresh hN9_5
                have gb9_5_hX6_1 := hX6_1.fresh hN9_5
                have gb9_5_hX9_1 := hX9_1.fresh hN9_5
                have nm0_0_9_5 := m0_0.apart hN9_5
                have nm5_5_9_5 := m5_5.apart hN9_5
                have nm6_5_9_5 := m6_5.apart hN9_5
                have m0_0 := m0_0.ext hN9_5.ext
                have m5_5 := m5_5.ext hN9_5.ext
                have m6_5 := m6_5.ext hN9_5.ext
                have hX := hX.trans hN9_5.ext
                have hX5_1 := hX5_1.trans hN9_5.ext
                have hX6_1 := hX6_1.trans hN9_5.ext
                have hX9_1 := hX9_1.trans hN9_5.ext
                have m9_5 := hN9_5.blk
                refine xl_store rfl rfl (hv_storeA (vs := [.int _ _, .int _ _, .int _ _, .int _ _, .int _ _, .int _ _, .int _ _, .int _ _, .int _ _, .int _ _, .int _ _, .slice _ _ _, .int _ _, .int _ _, .int _ _, .int _ _]) rfl rfl rfl (m9_5) rfl (by rfl) rfl) ?_
                rintro v9_6 H9_6 ⟨hU9_6, hZ9_6⟩
                have hX5_1 := hX5_1.upd hU9_6.but gb9_5_hX5_1
                have hX6_1 := hX6_1.upd hU9_6.but gb9_5_hX6_1
                have hX9_1 := hX9_1.upd hU9_6.but gb9_5_hX9_1
                have m0_0 := m0_0.off hU9_6.but (nm0_0_9_5)
                have m5_5 := m5_5.off hU9_6.but (nm5_5_9_5)
                have m6_5 := m6_5.off hU9_6.but (nm6_5_9_5)
                have hX := hX.upd hU9_6.but gb9_5
                have m9_5 := hU9_6.blk
                refine xl_pure rfl rfl rfl (pv_assign (v := .int _ _) rfl rfl) ?_
                refine xl_nil ?_
                refine xthen_normal ?_
                refine xc_seq ?_
                refine xc_region ?_
                refine xl_light rfl rfl rfl (lv_load (v := .agg _) rfl rfl (ld_blk_a m5_5 rfl rfl)) ?_
                refine xl_heavy rfl rfl rfl (hv_call (g := 17) rfl rfl (c17 x5_1 _ _ (hs5_1.ext hX5_1) (Nat.le_trans hg5_1 (by decide))) rfl) ?_
                rintro v10_1 H10_1 ⟨hc10_1, hE10_1⟩
                have m0_0 := m0_0.ext hE10_1
                have m5_5 := m5_5.ext hE10_1
                have m6_5 := m6_5.ext hE10_1
                have m9_5 := m9_5.ext hE10_1
                have hX := hX.trans hE10_1
                have hX5_1 := hX5_1.trans hE10_1
                have hX6_1 := hX6_1.trans hE10_1
                have hX9_1 := hX9_1.trans hE10_1
                obtain rfl : v10_1 = .tuple #[.string (bs (putB x5_1)), .int .i64 0] := by
                  rcases hc10_1 with ⟨h1, h⟩ | ⟨h1, h⟩
                  · exact absurd hpt.1 h1
                  · exact h
                refine xl_pure rfl rfl rfl (pv_move (v := .tuple _) rfl rfl) ?_
                refine xl_pure rfl rfl rfl (pv_extract (v := .string (bs _)) rfl rfl rfl) ?_
                refine xl_pure rfl rfl rfl (pv_extract (v := .int _ _) rfl rfl rfl) ?_
                refine xl_pure rfl rfl rfl (pv_assign (v := .string (bs _)) rfl rfl) ?_
                refine xl_pure rfl rfl rfl (pv_assign (v := .int _ _) rfl rfl) ?_
                refine xl_nil ?_
                refine xthen_normal ?_
                refine xc_seq ?_
                refine xc_region ?_
                refine xl_pure rfl rfl rfl (pv_move (v := .int _ _) rfl rfl) ?_
                refine xl_ndec rfl rfl rfl (pv_neq rfl rfl rfl) (fun h11_1 => ?_) (fun h11_1 => ?_)
                · skip
                  refine xl_pure rfl rfl rfl (pv_move (v := .bool _) rfl rfl) ?_
                  refine xl_pure rfl rfl rfl (pv_move (v := .int _ _) rfl rfl) ?_
                  refine xl_dec rfl rfl rfl (pv_eql rfl rfl rfl) (fun h11_4 => ?_) (fun h11_4 => ?_)
                  · skip
                    refine xl_pure rfl rfl rfl (pv_move (v := .bool _) rfl rfl) ?_
                    refine xl_light rfl rfl rfl (lv_load (v := .agg _) rfl rfl (ld_blk_a m9_5 rfl rfl)) ?_
                    refine xl_light rfl rfl rfl (lv_load (v := .agg _) rfl rfl (ld_blk_a m0_0 rfl rfl)) ?_
                    refine xl_heavy rfl rfl rfl (hv_call (g := 9) rfl rfl (c9 j j _ _ _ _ (hs9_1.ext hX9_1) (hs.ext hX) (Nat.lt_of_le_of_lt hg9_1 (by decide))) rfl) ?_
                    rintro v11_8 H11_8 ⟨r11_8, rfl, hb11_8, hE11_8⟩
                    have m0_0 := m0_0.ext hE11_8
                    have m5_5 := m5_5.ext hE11_8
                    have m6_5 := m6_5.ext hE11_8
                    have m9_5 := m9_5.ext hE11_8
                    have hX := hX.trans hE11_8
                    have hX5_1 := hX5_1.trans hE11_8
                    have hX6_1 := hX6_1.trans hE11_8
                    have hX9_1 := hX9_1.trans hE11_8
                    obtain rfl : r11_8 = true := hb11_8.2 rfl
                    refine xl_pure rfl rfl rfl (pv_pick_t (v := .bool _) rfl rfl rfl) ?_
                    refine xl_pure rfl rfl rfl (pv_pick_f (v := .bool _) rfl rfl rfl) ?_
                    refine xl_pure rfl rfl rfl (pv_move (v := .bool _) rfl rfl) ?_
                    refine xl_pure rfl rfl rfl (pv_move (v := .int _ _) rfl rfl) ?_
                    refine xl_ndec rfl rfl rfl (pv_neq rfl rfl rfl) (fun h11_13 => ?_) (fun h11_13 => ?_)
                    · skip
                      refine xl_pure rfl rfl rfl (pv_move (v := .bool _) rfl rfl) ?_
                      refine xl_pure rfl rfl rfl (pv_move (v := .int _ _) rfl rfl) ?_
                      refine xl_dec rfl rfl rfl (pv_eql rfl rfl rfl) (fun h11_16 => ?_) (fun h11_16 => ?_)
                      · skip
                        refine xl_pure rfl rfl rfl (pv_move (v := .bool _) rfl rfl) ?_
                        refine xl_pure rfl rfl rfl (pv_move (v := .string (bs _)) rfl rfl) ?_
                        refine xl_pure rfl rfl rfl (pv_move (v := .string (bs _)) rfl rfl) ?_
                        refine xl_dec rfl rfl rfl (pv_eql_s rfl rfl rfl) (fun h11_20 => ?_) (fun h11_20 => ?_)
                        · skip
                          refine xl_pure rfl rfl rfl (pv_pick_t (v := .bool _) rfl rfl rfl) ?_
                          refine xl_pure rfl rfl rfl (pv_pick_f (v := .bool _) rfl rfl rfl) ?_
                          refine xl_pure rfl rfl rfl (pv_pick_t (v := .bool _) rfl rfl rfl) ?_
                          refine xl_pure rfl rfl rfl (pv_move (v := .bool _) rfl rfl) ?_
                          refine xl_heavy rfl rfl rfl (hv_call (g := 6) rfl rfl (c6) rfl) ?_
                          rintro v11_25 H11_25 ⟨rfl, hE11_25⟩
                          have m0_0 := m0_0.ext hE11_25
                          have m5_5 := m5_5.ext hE11_25
                          have m6_5 := m6_5.ext hE11_25
                          have m9_5 := m9_5.ext hE11_25
                          have hX := hX.trans hE11_25
                          have hX5_1 := hX5_1.trans hE11_25
                          have hX6_1 := hX6_1.trans hE11_25
                          have hX9_1 := hX9_1.trans hE11_25
                          refine xl_pure rfl rfl rfl (pv_pick_t (v := .bool _) rfl rfl rfl) ?_
                          refine xl_pure rfl rfl rfl (pv_assign (v := .bool _) rfl rfl) ?_
                          refine xl_nil ?_
                          refine xthen_normal ?_
                          refine xc_ret ?_
                          refine fin_ret (res1 (v := .bool _) rfl rfl) ?_
                          exact ⟨rfl, hX⟩
                        · exact absurd hpt.2 h11_20
                      · exact absurd (by decide) h11_16
                    · exact absurd (by decide) h11_13
                  · exact absurd (by decide) h11_4
                · exact absurd (by decide) h11_1
              · exact absurd (by decide) h7_17
            · exact absurd (by decide) h7_6
          · exact absurd rfl h7_2
        · skip
          refine xl_pure rfl rfl rfl (pv_move (v := .tuple _) rfl rfl) ?_
          refine xl_pure rfl rfl rfl (pv_extract (v := .agg _) rfl rfl rfl) ?_
          refine xl_pure rfl rfl rfl (pv_extract (v := .int _ _) rfl rfl rfl) ?_
          refine xl_heavy rfl rfl rfl (hv_alloc rfl rfl) ?_
          rintro v5_5 H5_5 ⟨b5_5, rfl, hN5_5⟩
          have gb5_5 := hX.fresh hN5_5
          have gb5_5_hX5_1 := hX5_1.fresh hN5_5
          have nm0_0_5_5 := m0_0.apart hN5_5
          have m0_0 := m0_0.ext hN5_5.ext
          have hX := hX.trans hN5_5.ext
          have hX5_1 := hX5_1.trans hN5_5.ext
          have m5_5 := hN5_5.blk
          refine xl_store rfl rfl (hv_storeA (vs := [.int _ _, .int _ _, .int _ _, .int _ _, .int _ _, .int _ _, .int _ _, .int _ _, .int _ _, .int _ _, .int _ _, .slice _ _ _, .int _ _, .int _ _, .int _ _, .int _ _]) rfl rfl rfl (m5_5) rfl (by rfl) rfl) ?_
          rintro v5_6 H5_6 ⟨hU5_6, hZ5_6⟩
          have hX5_1 := hX5_1.upd hU5_6.but gb5_5_hX5_1
          have m0_0 := m0_0.off hU5_6.but (nm0_0_5_5)
          have hX := hX.upd hU5_6.but gb5_5
          have m5_5 := hU5_6.blk
          refine xl_pure rfl rfl rfl (pv_assign (v := .int _ _) rfl rfl) ?_
          refine xl_nil ?_
          refine xthen_normal ?_
          refine xc_seq ?_
          refine xc_region ?_
          refine xl_pure rfl rfl rfl (pv_move (v := .string (bs _)) rfl rfl) ?_
          refine xl_heavy rfl rfl rfl (hv_call (g := 20) rfl rfl (c20 s (by omega)) rfl) ?_
          rintro v6_1 H6_1 ⟨r6_1, x6_1, a6_1, c6_1, rfl, hd6_1, hs6_1, hg6_1, hE6_1⟩
          have m0_0 := m0_0.ext hE6_1
          have m5_5 := m5_5.ext hE6_1
          have hX := hX.trans hE6_1
          have hX5_1 := hX5_1.trans hE6_1
          have hX6_1 := Ext.refl H6_1
          have q6_1 := hd5_1.trans hd6_1.symm
          simp only [Prod.mk.injEq] at q6_1
          obtain ⟨rfl, rfl⟩ := q6_1
          refine xl_pure rfl rfl rfl (pv_move (v := .tuple _) rfl rfl) ?_
          refine xl_pure rfl rfl rfl (pv_extract (v := .agg _) rfl rfl rfl) ?_
          refine xl_pure rfl rfl rfl (pv_extract (v := .int _ _) rfl rfl rfl) ?_
          refine xl_heavy rfl rfl rfl (hv_alloc rfl rfl) ?_
          rintro v6_5 H6_5 ⟨b6_5, rfl, hN6_5⟩
          have gb6_5 := hX.fresh hN6_5
          have gb6_5_hX5_1 := hX5_1.fresh hN6_5
          have gb6_5_hX6_1 := hX6_1.fresh hN6_5
          have nm0_0_6_5 := m0_0.apart hN6_5
          have nm5_5_6_5 := m5_5.apart hN6_5
          have m0_0 := m0_0.ext hN6_5.ext
          have m5_5 := m5_5.ext hN6_5.ext
          have hX := hX.trans hN6_5.ext
          have hX5_1 := hX5_1.trans hN6_5.ext
          have hX6_1 := hX6_1.trans hN6_5.ext
          have m6_5 := hN6_5.blk
          refine xl_store rfl rfl (hv_storeA (vs := [.int _ _, .int _ _, .int _ _, .int _ _, .int _ _, .int _ _, .int _ _, .int _ _, .int _ _, .int _ _, .int _ _, .slice _ _ _, .int _ _, .int _ _, .int _ _, .int _ _]) rfl rfl rfl (m6_5) rfl (by rfl) rfl) ?_
          rintro v6_6 H6_6 ⟨hU6_6, hZ6_6⟩
          have hX5_1 := hX5_1.upd hU6_6.but gb6_5_hX5_1
          have hX6_1 := hX6_1.upd hU6_6.but gb6_5_hX6_1
          have m0_0 := m0_0.off hU6_6.but (nm0_0_6_5)
          have m5_5 := m5_5.off hU6_6.but (nm5_5_6_5)
          have hX := hX.upd hU6_6.but gb6_5
          have m6_5 := hU6_6.blk
          refine xl_pure rfl rfl rfl (pv_assign (v := .int _ _) rfl rfl) ?_
          refine xl_nil ?_
          refine xthen_normal ?_
          refine xc_seq ?_
          refine xc_seq ?_
          refine xc_region ?_
          refine xl_pure rfl rfl rfl (pv_move (v := .string (bs _)) rfl rfl) ?_
          refine xl_pure rfl rfl rfl (pv_move (v := .string (bs _)) rfl rfl) ?_
          refine xl_ndec rfl rfl rfl (pv_neq_s rfl rfl rfl) (fun h7_2 => ?_) (fun h7_2 => ?_)
          · skip
            refine xl_pure rfl rfl rfl (pv_move (v := .bool _) rfl rfl) ?_
            refine xl_pure rfl rfl rfl (pv_move (v := .int _ _) rfl rfl) ?_
            refine xl_pure rfl rfl rfl (pv_move (v := .int _ _) rfl rfl) ?_
            refine xl_ndec rfl rfl rfl (pv_neq rfl rfl rfl) (fun h7_6 => ?_) (fun h7_6 => ?_)
            · skip
              refine xl_pure rfl rfl rfl (pv_pick_f (v := .bool _) rfl rfl rfl) ?_
              refine xl_pure rfl rfl rfl (pv_move (v := .bool _) rfl rfl) ?_
              refine xl_light rfl rfl rfl (lv_load (v := .agg _) rfl rfl (ld_blk_a m5_5 rfl rfl)) ?_
              refine xl_light rfl rfl rfl (lv_load (v := .agg _) rfl rfl (ld_blk_a m6_5 rfl rfl)) ?_
              refine xl_heavy rfl rfl rfl (hv_call (g := 9) rfl rfl (c9 J0 J0 _ _ _ _ (hs5_1.ext hX5_1) (hs6_1.ext hX6_1) (Nat.lt_of_le_of_lt hg5_1 (by decide))) rfl) ?_
              rintro v7_11 H7_11 ⟨r7_11, rfl, hb7_11, hE7_11⟩
              have m0_0 := m0_0.ext hE7_11
              have m5_5 := m5_5.ext hE7_11
              have m6_5 := m6_5.ext hE7_11
              have hX := hX.trans hE7_11
              have hX5_1 := hX5_1.trans hE7_11
              have hX6_1 := hX6_1.trans hE7_11
              obtain rfl : r7_11 = true := hb7_11.2 rfl
              refine xl_pure rfl rfl rfl (pv_not rfl rfl) ?_
              refine xl_pure rfl rfl rfl (pv_pick_f (v := .bool _) rfl rfl rfl) ?_
              refine xl_pure rfl rfl rfl (pv_move (v := .bool _) rfl rfl) ?_
              refine xl_pure rfl rfl rfl (pv_move (v := .int _ _) rfl rfl) ?_
              refine xl_pure rfl rfl rfl (pv_move (v := .int _ _) rfl rfl) ?_
              refine xl_ndec rfl rfl rfl (pv_neq rfl rfl rfl) (fun h7_17 => ?_) (fun h7_17 => ?_)
              · skip
                refine xl_pure rfl rfl rfl (pv_pick_f (v := .bool _) rfl rfl rfl) ?_
                refine xl_nil ?_
                refine xthen_normal ?_
                refine xc_cond_f rfl ?_
                refine xc_skip ?_
                refine xthen_normal ?_
                refine xc_seq ?_
                refine xc_region ?_
                refine xl_pure rfl rfl rfl (pv_move (v := .string (bs _)) rfl rfl) ?_
                refine xl_heavy rfl rfl rfl (hv_call (g := 19) rfl rfl (c19 (putB j)) rfl) ?_
                rintro v9_1 H9_1 ⟨r9_1, x9_1, a9_1, c9_1, rfl, hd9_1, hs9_1, hg9_1, hE9_1⟩
                have m0_0 := m0_0.ext hE9_1
                have m5_5 := m5_5.ext hE9_1
                have m6_5 := m6_5.ext hE9_1
                have hX := hX.trans hE9_1
                have hX5_1 := hX5_1.trans hE9_1
                have hX6_1 := hX6_1.trans hE9_1
                have hX9_1 := Ext.refl H9_1
                have q9_1 := (hd9_1.trans (put_read hgd)).symm
                simp only [Prod.mk.injEq] at q9_1
                obtain ⟨rfl, rfl⟩ := q9_1
                refine xl_pure rfl rfl rfl (pv_move (v := .tuple _) rfl rfl) ?_
                refine xl_pure rfl rfl rfl (pv_extract (v := .agg _) rfl rfl rfl) ?_
                refine xl_pure rfl rfl rfl (pv_extract (v := .int _ _) rfl rfl rfl) ?_
                refine xl_heavy rfl rfl rfl (hv_alloc rfl rfl) ?_
                rintro v9_5 H9_5 ⟨b9_5, rfl, hN9_5⟩
                have gb9_5 := hX.fresh hN9_5
                have gb9_5_hX5_1 := hX5_1.fresh hN9_5
                have gb9_5_hX6_1 := hX6_1.fresh hN9_5
                have gb9_5_hX9_1 := hX9_1.fresh hN9_5
                have nm0_0_9_5 := m0_0.apart hN9_5
                have nm5_5_9_5 := m5_5.apart hN9_5
                have nm6_5_9_5 := m6_5.apart hN9_5
                have m0_0 := m0_0.ext hN9_5.ext
                have m5_5 := m5_5.ext hN9_5.ext
                have m6_5 := m6_5.ext hN9_5.ext
                have hX := hX.trans hN9_5.ext
                have hX5_1 := hX5_1.trans hN9_5.ext
                have hX6_1 := hX6_1.trans hN9_5.ext
                have hX9_1 := hX9_1.trans hN9_5.ext
                have m9_5 := hN9_5.blk
                refine xl_store rfl rfl (hv_storeA (vs := [.int _ _, .int _ _, .int _ _, .int _ _, .int _ _, .int _ _, .int _ _, .int _ _, .int _ _, .int _ _, .int _ _, .slice _ _ _, .int _ _, .int _ _, .int _ _, .int _ _]) rfl rfl rfl (m9_5) rfl (by rfl) rfl) ?_
                rintro v9_6 H9_6 ⟨hU9_6, hZ9_6⟩
                have hX5_1 := hX5_1.upd hU9_6.but gb9_5_hX5_1
                have hX6_1 := hX6_1.upd hU9_6.but gb9_5_hX6_1
                have hX9_1 := hX9_1.upd hU9_6.but gb9_5_hX9_1
                have m0_0 := m0_0.off hU9_6.but (nm0_0_9_5)
                have m5_5 := m5_5.off hU9_6.but (nm5_5_9_5)
                have m6_5 := m6_5.off hU9_6.but (nm6_5_9_5)
                have hX := hX.upd hU9_6.but gb9_5
                have m9_5 := hU9_6.blk
                refine xl_pure rfl rfl rfl (pv_assign (v := .int _ _) rfl rfl) ?_
                refine xl_nil ?_
                refine xthen_normal ?_
                refine xc_seq ?_
                refine xc_region ?_
                refine xl_light rfl rfl rfl (lv_load (v := .agg _) rfl rfl (ld_blk_a m5_5 rfl rfl)) ?_
                refine xl_heavy rfl rfl rfl (hv_call (g := 17) rfl rfl (c17 J0 _ _ (hs5_1.ext hX5_1) (Nat.le_trans hg5_1 (by decide))) rfl) ?_
                rintro v10_1 H10_1 ⟨hc10_1, hE10_1⟩
                have m0_0 := m0_0.ext hE10_1
                have m5_5 := m5_5.ext hE10_1
                have m6_5 := m6_5.ext hE10_1
                have m9_5 := m9_5.ext hE10_1
                have hX := hX.trans hE10_1
                have hX5_1 := hX5_1.trans hE10_1
                have hX6_1 := hX6_1.trans hE10_1
                have hX9_1 := hX9_1.trans hE10_1
                obtain rfl : v10_1 = .tuple #[.string (bs []), .int .i64 1] := by
                  rcases hc10_1 with ⟨h1, h⟩ | ⟨h1, h⟩
                  · exact h
                  · exact absurd h1 (by decide)
                refine xl_pure rfl rfl rfl (pv_move (v := .tuple _) rfl rfl) ?_
                refine xl_pure rfl rfl rfl (pv_extract (v := .string (bs _)) rfl rfl rfl) ?_
                refine xl_pure rfl rfl rfl (pv_extract (v := .int _ _) rfl rfl rfl) ?_
                refine xl_pure rfl rfl rfl (pv_assign (v := .string (bs _)) rfl rfl) ?_
                refine xl_pure rfl rfl rfl (pv_assign (v := .int _ _) rfl rfl) ?_
                refine xl_nil ?_
                refine xthen_normal ?_
                refine xc_seq ?_
                refine xc_region ?_
                refine xl_pure rfl rfl rfl (pv_move (v := .int _ _) rfl rfl) ?_
                refine xl_ndec rfl rfl rfl (pv_neq rfl rfl rfl) (fun h11_1 => ?_) (fun h11_1 => ?_)
                · skip
                  refine xl_pure rfl rfl rfl (pv_move (v := .bool _) rfl rfl) ?_
                  refine xl_pure rfl rfl rfl (pv_move (v := .int _ _) rfl rfl) ?_
                  refine xl_dec rfl rfl rfl (pv_eql rfl rfl rfl) (fun h11_4 => ?_) (fun h11_4 => ?_)
                  · skip
                    refine xl_pure rfl rfl rfl (pv_move (v := .bool _) rfl rfl) ?_
                    refine xl_light rfl rfl rfl (lv_load (v := .agg _) rfl rfl (ld_blk_a m9_5 rfl rfl)) ?_
                    refine xl_light rfl rfl rfl (lv_load (v := .agg _) rfl rfl (ld_blk_a m0_0 rfl rfl)) ?_
                    refine xl_heavy rfl rfl rfl (hv_call (g := 9) rfl rfl (c9 j j _ _ _ _ (hs9_1.ext hX9_1) (hs.ext hX) (Nat.lt_of_le_of_lt hg9_1 (by decide))) rfl) ?_
                    rintro v11_8 H11_8 ⟨r11_8, rfl, hb11_8, hE11_8⟩
                    have m0_0 := m0_0.ext hE11_8
                    have m5_5 := m5_5.ext hE11_8
                    have m6_5 := m6_5.ext hE11_8
                    have m9_5 := m9_5.ext hE11_8
                    have hX := hX.trans hE11_8
                    have hX5_1 := hX5_1.trans hE11_8
                    have hX6_1 := hX6_1.trans hE11_8
                    have hX9_1 := hX9_1.trans hE11_8
                    obtain rfl : r11_8 = true := hb11_8.2 rfl
                    refine xl_pure rfl rfl rfl (pv_pick_t (v := .bool _) rfl rfl rfl) ?_
                    refine xl_pure rfl rfl rfl (pv_pick_f (v := .bool _) rfl rfl rfl) ?_
                    refine xl_pure rfl rfl rfl (pv_move (v := .bool _) rfl rfl) ?_
                    refine xl_pure rfl rfl rfl (pv_move (v := .int _ _) rfl rfl) ?_
                    refine xl_ndec rfl rfl rfl (pv_neq rfl rfl rfl) (fun h11_13 => ?_) (fun h11_13 => ?_)
                    · exact absurd h11_13 (by decide)
                    · skip
                      refine xl_pure rfl rfl rfl (pv_move (v := .bool _) rfl rfl) ?_
                      refine xl_skip rfl rfl rfl ?_
                      refine xl_skip rfl rfl rfl ?_
                      refine xl_skip rfl rfl rfl ?_
                      refine xl_skip rfl rfl rfl ?_
                      refine xl_skip rfl rfl rfl ?_
                      refine xl_skip rfl rfl rfl ?_
                      refine xl_skip rfl rfl rfl ?_
                      refine xl_pure rfl rfl rfl (pv_pick_t (v := .bool _) rfl rfl rfl) ?_
                      refine xl_pure rfl rfl rfl (pv_pick_t (v := .bool _) rfl rfl rfl) ?_
                      refine xl_pure rfl rfl rfl (pv_move (v := .bool _) rfl rfl) ?_
                      refine xl_heavy rfl rfl rfl (hv_call (g := 6) rfl rfl (c6) rfl) ?_
                      rintro v11_25 H11_25 ⟨rfl, hE11_25⟩
                      have m0_0 := m0_0.ext hE11_25
                      have m5_5 := m5_5.ext hE11_25
                      have m6_5 := m6_5.ext hE11_25
                      have m9_5 := m9_5.ext hE11_25
                      have hX := hX.trans hE11_25
                      have hX5_1 := hX5_1.trans hE11_25
                      have hX6_1 := hX6_1.trans hE11_25
                      have hX9_1 := hX9_1.trans hE11_25
                      refine xl_pure rfl rfl rfl (pv_pick_t (v := .bool _) rfl rfl rfl) ?_
                      refine xl_pure rfl rfl rfl (pv_assign (v := .bool _) rfl rfl) ?_
                      refine xl_nil ?_
                      refine xthen_normal ?_
                      refine xc_ret ?_
                      refine fin_ret (res1 (v := .bool _) rfl rfl) ?_
                      exact ⟨rfl, hX⟩
                  · exact absurd (by decide) h11_4
                · exact absurd (by decide) h11_1
              · exact absurd (by decide) h7_17
            · exact absurd (by decide) h7_6
          · exact absurd rfl h7_2
end Go.XG
