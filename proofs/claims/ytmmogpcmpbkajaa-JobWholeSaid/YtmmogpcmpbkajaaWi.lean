/-
  Walks of the seat's functions over the logic XG: each function, what it computes. Printed by a program out of wip/walks.py.
-/
import Derived.Test.YtmmogpcmpbkajaaI
import Derived.Test.YtmmogpcmpbkajaaP
import Derived.Test.YtmmogpcmpbkajaaL
import Derived.Test.YtmmogpcmpbkajaaWa
import Derived.Test.YtmmogpcmpbkajaaWb
import Derived.Test.YtmmogpcmpbkajaaWc
import Derived.Test.YtmmogpcmpbkajaaWd
import Derived.Test.YtmmogpcmpbkajaaWe
import Derived.Test.YtmmogpcmpbkajaaWf
import Derived.Test.YtmmogpcmpbkajaaWg
import Derived.Test.YtmmogpcmpbkajaaWh
namespace Go.XG
open Go.Proofs
set_option maxRecDepth 4000
set_option maxHeartbeats 4000000
theorem c4 {O : Outer} {H : Heap} (j : J) (a : Option Addr) (c : Nat) (what now : Int) (hs : Stks H a j.needs) :
    FnC Try.prog 4 #[.agg (jcs j a c).toArray, .int .i64 what, .int .i64 now] O H (fun v H' => v = .bool true ∧ Ext H H') := by
  refine fn_enter (A := [.agg (jcs j a c).toArray, .int .i64 what, .int .i64 now]) Try.func4 rfl rfl ?_
  refine xc_seq ?_
  refine xc_region ?_
  refine xl_heavy rfl rfl rfl (hv_box rfl rfl) ?_
  rintro v0_0 H0_0 ⟨b0_0, rfl, hN0_0⟩
  have hr := hN0_0.blk
  have hX := hN0_0.ext
  refine xl_pure rfl rfl rfl (pv_assign (v := .bool _) rfl rfl) ?_
  refine xl_nil ?_
  refine xthen_normal ?_
  refine xc_seq ?_
  refine xc_seq ?_
  refine xc_region ?_
  refine xl_pure rfl rfl rfl (pv_fieldAddr rfl rfl) ?_
  refine xl_light rfl rfl rfl (lv_load (v := .slice _ _ _) rfl rfl (by first | exact ld_blk hr rfl)) ?_
  refine xl_pure rfl rfl rfl (pv_len_l rfl rfl) ?_
  refine xl_dec rfl rfl rfl (pv_gtr rfl rfl rfl) (fun h1_3 => ?_) (fun h1_3 => ?_)
  · skip
    refine xl_nil ?_
    refine xthen_normal ?_
    refine xc_cond_t rfl ?_
    refine xc_seq ?_
    refine xc_region ?_
    refine xl_heavy rfl rfl rfl (hv_call (g := 6) rfl rfl (c6) rfl) ?_
    rintro v2_0 H2_0 ⟨rfl, hE2_0⟩
    have hX := hX.trans hE2_0
    refine xl_pure rfl rfl rfl (pv_assign (v := .bool _) rfl rfl) ?_
    refine xl_nil ?_
    refine xthen_normal ?_
    refine xc_ret ?_
    refine xthen_ret ?_
    refine fin_ret (res1 (v := .bool _) rfl rfl) ?_
    exact ⟨rfl, hX⟩
  · skip
    refine xl_nil ?_
    refine xthen_normal ?_
    refine xc_cond_f rfl ?_
    refine xc_skip ?_
    refine xthen_normal ?_
    refine xc_seq ?_
    refine xc_region ?_
    refine xl_light rfl rfl rfl (lv_load (v := .agg _) rfl rfl (by first | exact ld_blk_a hr rfl rfl)) ?_
    refine xl_pure rfl rfl rfl (pv_move (v := .int _ _) rfl rfl) ?_
    refine xl_pure rfl rfl rfl (pv_move (v := .int _ _) rfl rfl) ?_
    refine xl_heavy rfl rfl rfl (hv_call (g := 8) rfl rfl (c8 j a c what now (hs.ext hX) (by omega)) rfl) ?_
    rintro v3_3 H3_3 ⟨e3_3, j3_3, a3_3, c3_3, rfl, hd3_3, hk3_3, hE3_3⟩
    have hX := hX.trans hE3_3
    have hr := hr.ext hE3_3
    refine xl_pure rfl rfl rfl (pv_move (v := .tuple _) rfl rfl) ?_
    refine xl_pure rfl rfl rfl (pv_extract (v := .agg _) rfl rfl rfl) ?_
    refine xl_pure rfl rfl rfl (pv_extract (v := .int _ _) rfl rfl rfl) ?_
    refine xl_heavy rfl rfl rfl (hv_alloc rfl rfl) ?_
    rintro v3_7 H3_7 ⟨b3_7, rfl, hN3_7⟩
    have hge := Nat.le_trans hX.size hN3_7.ge
    have hX := hX.trans hN3_7.ext
    have hnehr := hr.fresh hN3_7.ge
    have hr := hr.ext hN3_7.ext
    have hp := hN3_7.blk
    refine xl_store rfl rfl (hv_storeA (vs := [.int _ _, .int _ _, .int _ _, .int _ _, .int _ _, .int _ _, .int _ _, .int _ _, .int _ _, .int _ _, .int _ _, .slice _ _ _, .int _ _, .int _ _, .int _ _, .int _ _]) rfl rfl rfl (by first | exact hp) rfl (by rfl) rfl) ?_
    rintro v3_8 H3_8 ⟨hU3_8, hZ3_8⟩
    have hX := hX.ofBut hU3_8.but hge
    have hr := hr.but hU3_8.but hnehr
    have hp := hU3_8.blk
    refine xl_pure rfl rfl rfl (pv_assign (v := .int _ _) rfl rfl) ?_
    refine xl_nil ?_
    refine xthen_normal ?_
    refine xc_seq ?_
    refine xc_region ?_
    refine xl_light rfl rfl rfl (lv_load (v := .agg _) rfl rfl (by first | exact ld_blk_a hr rfl rfl)) ?_
    refine xl_pure rfl rfl rfl (pv_move (v := .int _ _) rfl rfl) ?_
    refine xl_pure rfl rfl rfl (pv_move (v := .int _ _) rfl rfl) ?_
    refine xl_heavy rfl rfl rfl (hv_call (g := 12) rfl rfl (c12 j a c what now (hs.ext hX) (by omega)) rfl) ?_
    rintro v4_3 H4_3 ⟨e4_3, j4_3, a4_3, c4_3, rfl, hd4_3, hk4_3, hE4_3⟩
    have hX := hX.trans hE4_3
    have hr := hr.ext hE4_3
    have hp := hp.ext hE4_3
    have heq := hd4_3.trans hd3_3.symm
    simp only [Prod.mk.injEq] at heq
    obtain ⟨rfl, rfl⟩ := heq
    refine xl_pure rfl rfl rfl (pv_move (v := .tuple _) rfl rfl) ?_
    refine xl_pure rfl rfl rfl (pv_extract (v := .agg _) rfl rfl rfl) ?_
    refine xl_pure rfl rfl rfl (pv_extract (v := .int _ _) rfl rfl rfl) ?_
    refine xl_heavy rfl rfl rfl (hv_alloc rfl rfl) ?_
    rintro v4_7 H4_7 ⟨b4_7, rfl, hN4_7⟩
    have hge := Nat.le_trans hX.size hN4_7.ge
    have hX := hX.trans hN4_7.ext
    have hnehr := hr.fresh hN4_7.ge
    have hnehp := hp.fresh hN4_7.ge
    have hr := hr.ext hN4_7.ext
    have hp := hp.ext hN4_7.ext
    have hq := hN4_7.blk
    refine xl_store rfl rfl (hv_storeA (vs := [.int _ _, .int _ _, .int _ _, .int _ _, .int _ _, .int _ _, .int _ _, .int _ _, .int _ _, .int _ _, .int _ _, .slice _ _ _, .int _ _, .int _ _, .int _ _, .int _ _]) rfl rfl rfl (by first | exact hq) rfl (by rfl) rfl) ?_
    rintro v4_8 H4_8 ⟨hU4_8, hZ4_8⟩
    have hX := hX.ofBut hU4_8.but hge
    have hr := hr.but hU4_8.but hnehr
    have hp := hp.but hU4_8.but hnehp
    have hq := hU4_8.blk
    refine xl_pure rfl rfl rfl (pv_assign (v := .int _ _) rfl rfl) ?_
    refine xl_nil ?_
    refine xthen_normal ?_
    refine xc_seq ?_
    refine xp_start rfl (by repeat (first | with_reducible exact np_fin | with_reducible refine np_then ?_ | with_reducible refine np_block ?_)) (by kernel_rfl) ?_
    refine xp_light (i := 0) rfl (by kernel_rfl) (by kernel_rfl) rfl rfl rfl (lv_load (v := .agg _) rfl rfl (by first | exact ld_blk_a hp rfl rfl)) ?_
    refine xp_light (i := 1) rfl (by kernel_rfl) (by kernel_rfl) rfl rfl rfl (lv_load (v := .agg _) rfl rfl (by first | exact ld_blk_a hq rfl rfl)) ?_
    refine xp_heavy (i := 2) (by kernel_rfl) ?_
    refine xph_val rfl rfl rfl rfl (hv_call (g := 9) rfl rfl (c9 _ _ _ _ _ _ (stks_res (hs.ext hX) hk3_3) (stks_res (hs.ext hX) hk4_3) (len_res (by omega) hk3_3)) rfl) (pd (by kernel_rfl) (pd (by kernel_rfl) pn)) ?_
    rintro v5_2 H5_2 ⟨r5_2, rfl, hb5_2, hE5_2⟩
    have hX := hX.trans hE5_2
    have hr := hr.ext hE5_2
    have hp := hp.ext hE5_2
    have hq := hq.ext hE5_2
    obtain rfl : r5_2 = true := hb5_2.2 rfl
    refine ⟨okn, ?_⟩
    refine xp_pure (i := 3) rfl (by kernel_rfl) (by kernel_rfl) rfl rfl rfl (pv_move (v := .bool _) rfl rfl) ?_
    refine xp_pure (i := 4) rfl (by kernel_rfl) (by kernel_rfl) rfl rfl rfl (pv_move (v := .int _ _) rfl rfl) ?_
    refine xp_pure (i := 5) rfl (by kernel_rfl) (by kernel_rfl) rfl rfl rfl (pv_move (v := .int _ _) rfl rfl) ?_
    refine xp_dec (i := 6) rfl (by kernel_rfl) (by kernel_rfl) rfl rfl rfl (pv_eql rfl rfl rfl) (fun h5_6 => ?_) (fun h5_6 => ?_)
    · skip
      refine xp_pure (i := 7) rfl (by kernel_rfl) (by kernel_rfl) rfl rfl rfl (pv_pick_t (v := .bool _) rfl rfl rfl) ?_
      refine xp_pure (i := 8) rfl (by kernel_rfl) (by kernel_rfl) rfl rfl rfl (pv_move (v := .bool _) rfl rfl) ?_
      refine xp_light (i := 9) rfl (by kernel_rfl) (by kernel_rfl) rfl rfl rfl (lv_load (v := .agg _) rfl rfl (by first | exact ld_blk_a hr rfl rfl)) ?_
      refine xp_light (i := 11) rfl (by kernel_rfl) (by kernel_rfl) rfl rfl rfl (lv_load (v := .agg _) rfl rfl (by first | exact ld_blk_a hr rfl rfl)) ?_
      refine xp_heavy (i := 10) (by kernel_rfl) ?_
      refine xph_val rfl rfl rfl rfl (hv_call (g := 10) rfl rfl (c10 j a c (hs.ext hX) (by omega)) rfl) (pk (by kernel_rfl) (pd (by kernel_rfl) pn)) ?_
      rintro v5_10 H5_10 ⟨e5_10, rfl, hg5_10, hE5_10⟩
      have hX := hX.trans hE5_10
      have hr := hr.ext hE5_10
      have hp := hp.ext hE5_10
      have hq := hq.ext hE5_10
      refine ⟨(okc (lv_load (v := .agg _) rfl rfl (by first | exact ld_blk_a hr rfl rfl)) okn), ?_⟩
      refine xp_heavy (i := 12) (by kernel_rfl) ?_
      refine xph_val rfl rfl rfl rfl (hv_call (g := 13) rfl rfl (c13 j a c (hs.ext hX) (by omega)) rfl) (pd (by kernel_rfl) pn) ?_
      rintro v5_12 H5_12 ⟨e5_12, rfl, hg5_12, hE5_12⟩
      have hX := hX.trans hE5_12
      have hr := hr.ext hE5_12
      have hp := hp.ext hE5_12
      have hq := hq.ext hE5_12
      obtain rfl : e5_12 = e5_10 := by
        rcases hg5_10 with ⟨h, rfl⟩ | ⟨h, rfl⟩ <;> rcases hg5_12 with ⟨h', rfl⟩ | ⟨h', rfl⟩ <;> first | rfl | exact absurd h h' | exact absurd h' h
      refine ⟨okn, ?_⟩
      refine xp_dec (i := 13) rfl (by kernel_rfl) (by kernel_rfl) rfl rfl rfl (pv_eql rfl rfl rfl) (fun h5_13 => ?_) (fun h5_13 => ?_)
      · skip
        refine xp_pure (i := 14) rfl (by kernel_rfl) (by kernel_rfl) rfl rfl rfl (pv_pick_t (v := .bool _) rfl rfl rfl) ?_
        refine xp_pure (i := 15) rfl (by kernel_rfl) (by kernel_rfl) rfl rfl rfl (pv_move (v := .bool _) rfl rfl) ?_
        refine xp_light (i := 16) rfl (by kernel_rfl) (by kernel_rfl) rfl rfl rfl (lv_load (v := .agg _) rfl rfl (by first | exact ld_blk_a hr rfl rfl)) ?_
        refine xp_light (i := 18) rfl (by kernel_rfl) (by kernel_rfl) rfl rfl rfl (lv_load (v := .agg _) rfl rfl (by first | exact ld_blk_a hr rfl rfl)) ?_
        refine xp_heavy (i := 17) (by kernel_rfl) ?_
        refine xph_val rfl rfl rfl rfl (hv_call (g := 11) rfl rfl (c11 j a c) rfl) (pk (by kernel_rfl) (pd (by kernel_rfl) pn)) ?_
        rintro v5_17 H5_17 ⟨r5_17, rfl, hb5_17, hE5_17⟩
        have hX := hX.trans hE5_17
        have hr := hr.ext hE5_17
        have hp := hp.ext hE5_17
        have hq := hq.ext hE5_17
        refine ⟨(okc (lv_load (v := .agg _) rfl rfl (by first | exact ld_blk_a hr rfl rfl)) okn), ?_⟩
        refine xp_heavy (i := 19) (by kernel_rfl) ?_
        refine xph_val rfl rfl rfl rfl (hv_call (g := 14) rfl rfl (c14 j a c) rfl) (pd (by kernel_rfl) pn) ?_
        rintro v5_19 H5_19 ⟨r5_19, rfl, hb5_19, hE5_19⟩
        have hX := hX.trans hE5_19
        have hr := hr.ext hE5_19
        have hp := hp.ext hE5_19
        have hq := hq.ext hE5_19
        obtain rfl : r5_19 = r5_17 := Bool.eq_iff_iff.2 (hb5_19.trans hb5_17.symm)
        refine ⟨okn, ?_⟩
        refine xp_pure (i := 20) rfl (by kernel_rfl) (by kernel_rfl) rfl rfl rfl (pv_eql_same rfl rfl rfl) ?_
        refine xp_pure (i := 21) rfl (by kernel_rfl) (by kernel_rfl) rfl rfl rfl (pv_pick_t (v := .bool _) rfl rfl rfl) ?_
        refine xp_pure (i := 22) rfl (by kernel_rfl) (by kernel_rfl) rfl rfl rfl (pv_move (v := .bool _) rfl rfl) ?_
        refine xp_pure (i := 23) rfl (by kernel_rfl) (by kernel_rfl) rfl rfl rfl (pv_move (v := .int _ _) rfl rfl) ?_
        refine xp_pure (i := 25) rfl (by kernel_rfl) (by kernel_rfl) rfl rfl rfl (pv_move (v := .int _ _) rfl rfl) ?_
        refine xp_heavy (i := 24) (by kernel_rfl) ?_
        refine xph_val rfl rfl rfl rfl (hv_call (g := 15) rfl rfl (c15 what) rfl) pn ?_
        rintro v5_24 H5_24 ⟨r5_24, rfl, hb5_24, rfl⟩
        refine ⟨okn, ?_⟩
        refine xp_heavy (i := 26) (by kernel_rfl) ?_
        refine xph_val rfl rfl rfl rfl (hv_call (g := 16) rfl rfl (c16 what) rfl) pn ?_
        rintro v5_26 H5_26 ⟨r5_26, rfl, hb5_26, rfl⟩
        obtain rfl : r5_26 = r5_24 := by omega
        refine ⟨okn, ?_⟩
        refine xp_dec (i := 27) rfl (by kernel_rfl) (by kernel_rfl) rfl rfl rfl (pv_eql rfl rfl rfl) (fun h5_27 => ?_) (fun h5_27 => ?_)
        · skip
          refine xp_pure (i := 28) rfl (by kernel_rfl) (by kernel_rfl) rfl rfl rfl (pv_pick_t (v := .bool _) rfl rfl rfl) ?_
          refine xp_pure (i := 29) rfl (by kernel_rfl) (by kernel_rfl) rfl rfl rfl (pv_move (v := .bool _) rfl rfl) ?_
          refine xp_heavy (i := 30) (by kernel_rfl) ?_
          refine xph_val rfl rfl rfl rfl (hv_call (g := 6) rfl rfl (c6) rfl) pn ?_
          rintro v5_30 H5_30 ⟨rfl, hE5_30⟩
          have hX := hX.trans hE5_30
          have hr := hr.ext hE5_30
          have hp := hp.ext hE5_30
          have hq := hq.ext hE5_30
          refine ⟨okn, ?_⟩
          refine xp_pure (i := 31) rfl (by kernel_rfl) (by kernel_rfl) rfl rfl rfl (pv_pick_t (v := .bool _) rfl rfl rfl) ?_
          refine xp_pure (i := 32) rfl (by kernel_rfl) (by kernel_rfl) rfl rfl rfl (pv_assign (v := .bool _) rfl rfl) ?_
          refine xp_done (by kernel_rfl) ?_
          refine xthen_normal ?_
          refine xc_ret ?_
          refine fin_ret (res1 (v := .bool _) rfl rfl) ?_
          exact ⟨rfl, hX⟩
        · exact absurd rfl h5_27
      · exact absurd rfl h5_13
    · exact absurd rfl h5_6
end Go.XG
