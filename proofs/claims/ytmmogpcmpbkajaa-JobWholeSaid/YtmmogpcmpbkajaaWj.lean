/-
  Walks of the seat's functions over the logic XG: each function, what it computes. Printed by a program out of wip/walks.py.
-/
import Derived.Test.YtmmogpcmpbkajaaI
import Derived.Test.YtmmogpcmpbkajaaP
import Derived.Test.YtmmogpcmpbkajaaL
import Derived.Test.YtmmogpcmpbkajaaWa
import Derived.Test.YtmmogpcmpbkajaaWb
import Derived.Test.YtmmogpcmpbkajaaWc
import Derived.Test.YtmmogpcmpbkajaaWd
import Derived.Test.YtmmogpcmpbkajaaWe
import Derived.Test.YtmmogpcmpbkajaaWf
import Derived.Test.YtmmogpcmpbkajaaWg
import Derived.Test.YtmmogpcmpbkajaaWh
import Derived.Test.YtmmogpcmpbkajaaWi
namespace Go.XG
open Go.Proofs
set_option maxRecDepth 4000
set_option maxHeartbeats 4000000
theorem c3 {O : Outer} {H : Heap} (time : Int) (l : List Stack) (al : Option Addr) (cl : Nat) (hsl : Stks H al l) :
    FnC Try.prog 3 #[.int .i64 time, .slice al l.length cl] O H (fun v H' => v = .bool true ∧ Ext H H') := by
  refine fn_enter (A := [.int .i64 time, .slice al l.length cl]) Try.func3 rfl rfl ?_
  refine xc_seq ?_
  refine xc_region ?_
  refine xl_pure rfl rfl rfl (pv_assign (v := .bool _) rfl rfl) ?_
  refine xl_nil ?_
  refine xthen_normal ?_
  refine xc_seq ?_
  refine xc_seq ?_
  refine xc_region ?_
  refine xl_pure rfl rfl rfl (pv_move (v := .slice _ _ _) rfl rfl) ?_
  refine xl_pure rfl rfl rfl (pv_len_l rfl rfl) ?_
  refine xl_dec rfl rfl rfl (pv_gtr rfl rfl rfl) (fun h1_2 => ?_) (fun h1_2 => ?_)
  · skip
    refine xl_nil ?_
    refine xthen_normal ?_
    refine xc_cond_t rfl ?_
    refine xc_seq ?_
    refine xc_region ?_
    refine xl_heavy rfl rfl rfl (hv_call (g := 6) rfl rfl (c6) rfl) ?_
    rintro v2_0 H2_0 ⟨rfl, hE2_0⟩
    refine xl_pure rfl rfl rfl (pv_assign (v := .bool _) rfl rfl) ?_
    refine xl_nil ?_
    refine xthen_normal ?_
    refine xc_ret ?_
    refine xthen_ret ?_
    refine fin_ret (res1 (v := .bool _) rfl rfl) ?_
    exact ⟨rfl, hE2_0⟩
  · skip
    refine xl_nil ?_
    refine xthen_normal ?_
    refine xc_cond_f rfl ?_
    refine xc_skip ?_
    refine xthen_normal ?_
    refine xc_seq ?_
    refine xc_region ?_
    refine xl_heavy rfl rfl rfl (hv_call (g := 7) rfl rfl (c7) rfl) ?_
    rintro v3_0 H3_0 ⟨rfl, hX⟩
    refine xl_heavy rfl rfl rfl (hv_alloc rfl rfl) ?_
    rintro v3_1 H3_1 ⟨b3_1, rfl, hN3_1⟩
    have hge := Nat.le_trans hX.size hN3_1.ge
    have hX := hX.trans hN3_1.ext
    have hr := hN3_1.blk
    refine xl_store rfl rfl (hv_storeA (vs := [.int _ _, .int _ _, .int _ _, .int _ _, .int _ _, .int _ _, .int _ _, .int _ _, .int _ _, .int _ _, .int _ _, .slice _ _ _, .int _ _, .int _ _, .int _ _, .int _ _]) rfl rfl rfl (by first | exact ld_blk_a hr rfl rfl | exact ld_blk hr rfl | exact hr | exact ld_blk_a hw rfl rfl | exact ld_blk hw rfl | exact hw | exact ld_blk_a hq rfl rfl | exact ld_blk hq rfl | exact hq | exact cellAt_ext (hsa i (by omega)).2 hX | exact cellAt_ext (hsa i (by omega)).1 hX) rfl (by rfl) rfl) ?_
    rintro v3_2 H3_2 ⟨hU3_2, hZ3_2⟩
    have hX := hX.ofBut hU3_2.but hge
    have hr := hU3_2.blk
    refine xl_nil ?_
    refine xthen_normal ?_
    refine xc_seq ?_
    refine xc_region ?_
    refine xl_pure rfl rfl rfl (pv_move (v := .int _ _) rfl rfl) ?_
    refine xl_pure rfl rfl rfl (pv_and rfl rfl rfl (mask16 _)) ?_
    refine xl_pure rfl rfl rfl (pv_add rfl rfl rfl (fit_i64 (by omega))) ?_
    refine xl_pure rfl rfl rfl (pv_fieldAddr rfl rfl) ?_
    refine xl_store rfl rfl (hv_store (vs := [.int _ _]) rfl rfl rfl (by first | exact ld_blk_a hr rfl rfl | exact ld_blk hr rfl | exact hr | exact ld_blk_a hw rfl rfl | exact ld_blk hw rfl | exact hw | exact ld_blk_a hq rfl rfl | exact ld_blk hq rfl | exact hq | exact cellAt_ext (hsa i (by omega)).2 hX | exact cellAt_ext (hsa i (by omega)).1 hX) rfl (Nat.le_of_ble_eq_true rfl) rfl) ?_
    rintro v4_4 H4_4 ⟨hU4_4, hZ4_4⟩
    have hX := hX.ofBut hU4_4.but hge
    have hr := hU4_4.blk
    refine xl_nil ?_
    refine xthen_normal ?_
    refine xc_seq ?_
    refine xc_region ?_
    refine xl_pure rfl rfl rfl (pv_fieldAddr rfl rfl) ?_
    refine xl_light rfl rfl rfl (lv_load (v := .int _ _) rfl rfl (by first | exact ld_blk_a hr rfl rfl | exact ld_blk hr rfl | exact hr | exact ld_blk_a hw rfl rfl | exact ld_blk hw rfl | exact hw | exact ld_blk_a hq rfl rfl | exact ld_blk hq rfl | exact hq | exact cellAt_ext (hsa i (by omega)).2 hX | exact cellAt_ext (hsa i (by omega)).1 hX)) ?_
    refine xl_pure rfl rfl rfl (pv_fieldAddr rfl rfl) ?_
    refine xl_store rfl rfl (hv_store (vs := [.int _ _]) rfl rfl rfl (by first | exact ld_blk_a hr rfl rfl | exact ld_blk hr rfl | exact hr | exact ld_blk_a hw rfl rfl | exact ld_blk hw rfl | exact hw | exact ld_blk_a hq rfl rfl | exact ld_blk hq rfl | exact hq | exact cellAt_ext (hsa i (by omega)).2 hX | exact cellAt_ext (hsa i (by omega)).1 hX) rfl (Nat.le_of_ble_eq_true rfl) rfl) ?_
    rintro v5_3 H5_3 ⟨hU5_3, hZ5_3⟩
    have hX := hX.ofBut hU5_3.but hge
    have hr := hU5_3.blk
    refine xl_nil ?_
    refine xthen_normal ?_
    refine xc_seq ?_
    refine xc_region ?_
    refine xl_pure rfl rfl rfl (pv_assign (v := .int _ _) rfl rfl) ?_
    refine xl_pure rfl rfl rfl (pv_assign (v := .int _ _) rfl rfl) ?_
    refine xl_nil ?_
    refine xthen_normal ?_
    refine xc_seq ?_
    refine xc_seq ?_
    refine xc_region ?_
    refine xl_pure rfl rfl rfl (pv_assign (v := .int _ _) rfl rfl) ?_
    refine xl_nil ?_
    refine xthen_normal ?_
    refine xc_block ?_
    refine xc_loop (τ := J × Option Addr × Nat × Int × Int × Nat) (fun t => [(1, .slice al l.length cl), (5, .pointer (some ⟨b3_1, 0, none⟩)), (6, .int .i64 t.2.2.2.1), (7, .int .i64 t.2.2.2.2.1), (8, .int .i64 (t.2.2.2.2.2 : Nat))]) (fun t H' => t.2.2.2.2.2 ≤ l.length ∧ Inv t.1 t.2.2.2.2.1 (1 + time % 65536) ∧ 0 ≤ t.2.2.2.1 ∧ t.2.2.2.1 ≤ t.2.2.2.2.2 * 65535 ∧ Blk H' b3_1 (jcs t.1 t.2.1 t.2.2.1) 26 ∧ Ext H H') (fun t H' => l.length - t.2.2.2.2.2) ({ Plain with time := 1 + time % 65536, left := 1 + time % 65536 }, none, 0, 0, 0, 0) ?_ ?_ ?_
    · exact ⟨rfl, rfl, rfl, rfl, rfl, trivial⟩
    · skip
      exact ⟨Nat.zero_le _, inv0 time, by simp, by simp, hr, hX⟩
    · intro σ
      clear hr hX
      rintro ⟨j, a, c, now, ran, i⟩ Hl ⟨hi, hinv, hn0, hn1, hr, hX⟩
      simp only at hi hinv hn0 hn1 hr
      have hT := hinv.time
      have hr0 := hinv.ran0
      have hrT := hinv.ranT
      have hlft := hinv.left
      have hst : Stands j := hinv.good.2.2.2.2
      unfold Stands at hst
      show XC _ _ _ (upds σ [(1, .slice al l.length cl), (5, .pointer (some ⟨b3_1, 0, none⟩)), (6, .int .i64 now), (7, .int .i64 ran), (8, .int .i64 (i : Nat))]) _
      refine xc_seq ?_
      refine xc_seq ?_
      refine xc_region ?_
      refine xl_pure rfl rfl rfl (pv_move (v := .int _ _) rfl rfl) ?_
      refine xl_pure rfl rfl rfl (pv_move (v := .slice _ _ _) rfl rfl) ?_
      refine xl_pure rfl rfl rfl (pv_len_l rfl rfl) ?_
      refine xl_dec rfl rfl rfl (pv_lss rfl rfl rfl) (fun h8_3 => ?_) (fun h8_3 => ?_)
      · skip
        refine xl_nil ?_
        refine xthen_normal ?_
        refine xc_cond_t rfl ?_
        refine xc_skip ?_
        refine xthen_normal ?_
        refine xc_seq ?_
        refine xc_block ?_
        refine xc_seq ?_
        obtain ⟨ba, off, hae, hsa⟩ := hsl.resolve_left (by omega)
        have hm := Int.emod_nonneg (gq l i) (show (65536 : Int) ≠ 0 by decide)
        have hm2 := Int.emod_lt_of_pos (gq l i) (show (0 : Int) < 65536 by decide)
        subst hae
        refine xc_region ?_
        refine xl_pure rfl rfl rfl (pv_move (v := .int _ _) rfl rfl) ?_
        refine xl_pure rfl rfl rfl (pv_move (v := .slice _ _ _) rfl rfl) ?_
        refine xl_pure rfl rfl rfl (pv_move (v := .int _ _) rfl rfl) ?_
        refine xl_pure rfl rfl rfl (pv_indexAddr_l rfl rfl rfl (by omega)) ?_
        refine xl_pure rfl rfl rfl (pv_fieldAddr rfl rfl) ?_
        refine xl_light rfl rfl rfl (lv_load (v := .int _ _) rfl rfl (by first | exact ld_blk_a hr rfl rfl | exact ld_blk hr rfl | exact hr | exact ld_blk_a hw rfl rfl | exact ld_blk hw rfl | exact hw | exact ld_blk_a hq rfl rfl | exact ld_blk hq rfl | exact hq | exact cellAt_ext (hsa i (by omega)).2 hX | exact cellAt_ext (hsa i (by omega)).1 hX)) ?_
        refine xl_pure rfl rfl rfl (pv_and rfl rfl rfl (mask16 _)) ?_
        refine xl_pure rfl rfl rfl (pv_add rfl rfl rfl (fit_i64 (by omega))) ?_
        refine xl_pure rfl rfl rfl (pv_assign (v := .int _ _) rfl rfl) ?_
        refine xl_nil ?_
        refine xthen_normal ?_
        refine xc_seq ?_
        refine xc_region ?_
        refine xl_light rfl rfl rfl (lv_load (v := .agg _) rfl rfl (by first | exact ld_blk_a hr rfl rfl | exact ld_blk hr rfl | exact hr | exact ld_blk_a hw rfl rfl | exact ld_blk hw rfl | exact hw | exact ld_blk_a hq rfl rfl | exact ld_blk hq rfl | exact hq | exact cellAt_ext (hsa i (by omega)).2 hX | exact cellAt_ext (hsa i (by omega)).1 hX)) ?_
        refine xl_heavy rfl rfl rfl (hv_alloc rfl rfl) ?_
        rintro v11_1 H11_1 ⟨b11_1, rfl, hN11_1⟩
        have hgw := Nat.le_trans hX.size hN11_1.ge
        have hX := hX.trans hN11_1.ext
        have hnew := hr.fresh hN11_1.ge
        have hr := hr.ext hN11_1.ext
        have hw := hN11_1.blk
        refine xl_store rfl rfl (hv_storeA (vs := [.int _ _, .int _ _, .int _ _, .int _ _, .int _ _, .int _ _, .int _ _, .int _ _, .int _ _, .int _ _, .int _ _, .slice _ _ _, .int _ _, .int _ _, .int _ _, .int _ _]) rfl rfl rfl (by first | exact ld_blk_a hr rfl rfl | exact ld_blk hr rfl | exact hr | exact ld_blk_a hw rfl rfl | exact ld_blk hw rfl | exact hw | exact ld_blk_a hq rfl rfl | exact ld_blk hq rfl | exact hq | exact cellAt_ext (hsa i (by omega)).2 hX | exact cellAt_ext (hsa i (by omega)).1 hX) rfl (by rfl) rfl) ?_
        rintro v11_2 H11_2 ⟨hU11_2, hZ11_2⟩
        have hX := hX.ofBut hU11_2.but hgw
        have hr := hr.but hU11_2.but hnew
        have hw := hU11_2.blk
        refine xl_nil ?_
        refine xthen_normal ?_
        refine xc_seq ?_
        have hnow : 0 ≤ now + gq l i % 65536 ∧ now + gq l i % 65536 ≤ 1099511627776 := by omega
        refine xp_start rfl (by repeat (first | with_reducible exact np_fin | with_reducible refine np_then ?_ | with_reducible refine np_block ?_)) (by kernel_rfl) ?_
        refine xp_light (i := 0) rfl (by kernel_rfl) (by kernel_rfl) rfl rfl rfl (lv_load (v := .agg _) rfl rfl (by first | exact ld_blk_a hr rfl rfl | exact ld_blk hr rfl | exact hr | exact ld_blk_a hw rfl rfl | exact ld_blk hw rfl | exact hw | exact ld_blk_a hq rfl rfl | exact ld_blk hq rfl | exact hq | exact cellAt_ext (hsa i (by omega)).2 hX | exact cellAt_ext (hsa i (by omega)).1 hX)) ?_
        refine xp_pure (i := 1) rfl (by kernel_rfl) (by kernel_rfl) rfl rfl rfl (pv_move (v := .slice _ _ _) rfl rfl) ?_
        refine xp_pure (i := 2) rfl (by kernel_rfl) (by kernel_rfl) rfl rfl rfl (pv_move (v := .int _ _) rfl rfl) ?_
        refine xp_pure (i := 3) rfl (by kernel_rfl) (by kernel_rfl) rfl rfl rfl (pv_indexAddr_l rfl rfl rfl (by omega)) ?_
        refine xp_pure (i := 4) rfl (by kernel_rfl) (by kernel_rfl) rfl rfl rfl (pv_fieldAddr rfl rfl) ?_
        refine xp_light (i := 5) rfl (by kernel_rfl) (by kernel_rfl) rfl rfl rfl (lv_load (v := .int _ _) rfl rfl (by first | exact ld_blk_a hr rfl rfl | exact ld_blk hr rfl | exact hr | exact ld_blk_a hw rfl rfl | exact ld_blk hw rfl | exact hw | exact ld_blk_a hq rfl rfl | exact ld_blk hq rfl | exact hq | exact cellAt_ext (hsa i (by omega)).2 hX | exact cellAt_ext (hsa i (by omega)).1 hX)) ?_
        refine xp_pure (i := 6) rfl (by kernel_rfl) (by kernel_rfl) rfl rfl rfl (pv_move (v := .int _ _) rfl rfl) ?_
        refine xp_heavy2 (i := 7) (j := 11) (by kernel_rfl) ?_ ?_
        · skip
          refine xph_val rfl rfl rfl rfl (hv_call (g := 8) rfl rfl (c8 j a c (gx l i) _ (.inl hinv.needs) (by have := hinv.needs; omega)) rfl) (pd (by kernel_rfl) (pd (by kernel_rfl) pn)) ?_
          rintro v12_7 H12_7 ⟨e12_7, j12_7, a12_7, c12_7, rfl, hd12_7, hk12_7, hE12_7⟩
          have hX := hX.trans hE12_7
          have hr := hr.ext hE12_7
          have hw := hw.ext hE12_7
          try have hq := hq.ext hE12_7
          refine ⟨okn, ?_⟩
          rcases do_cases (what := gx l i) hinv.good hnow with hdd | ⟨x, hdd, hgx, htx, hnx, hstep⟩
          · skip
            have hdd := hd12_7.trans hdd
            simp only [Prod.mk.injEq] at hdd
            obtain ⟨rfl, rfl⟩ := hdd
            refine xp_pure (i := 8) rfl (by kernel_rfl) (by kernel_rfl) rfl rfl rfl (pv_move (v := .tuple _) rfl rfl) ?_
            refine xp_pure (i := 9) rfl (by kernel_rfl) (by kernel_rfl) rfl rfl rfl (pv_extract (v := .agg _) rfl rfl rfl) ?_
            refine xp_pure (i := 10) rfl (by kernel_rfl) (by kernel_rfl) rfl rfl rfl (pv_extract (v := .int _ _) rfl rfl rfl) ?_
            refine xp_heavy (i := 11) (by kernel_rfl) ?_
            refine xph_val rfl rfl rfl rfl (hv_alloc rfl rfl) pn ?_
            rintro v12_11 H12_11 ⟨b12_11, rfl, hN12_11⟩
            have hgq := Nat.le_trans hX.size hN12_11.ge
            have hX := hX.trans hN12_11.ext
            have hnrq := hr.fresh hN12_11.ge
            have hnwq := hw.fresh hN12_11.ge
            have hr := hr.ext hN12_11.ext
            have hw := hw.ext hN12_11.ext
            have hq := hN12_11.blk
            refine ⟨okn, ?_⟩
            refine xp_heavy (i := 12) (by kernel_rfl) ?_
            refine xph_store rfl rfl rfl (hv_storeA (vs := [.int _ _, .int _ _, .int _ _, .int _ _, .int _ _, .int _ _, .int _ _, .int _ _, .int _ _, .int _ _, .int _ _, .slice _ _ _, .int _ _, .int _ _, .int _ _, .int _ _]) rfl rfl rfl (by first | exact ld_blk_a hr rfl rfl | exact ld_blk hr rfl | exact hr | exact ld_blk_a hw rfl rfl | exact ld_blk hw rfl | exact hw | exact ld_blk_a hq rfl rfl | exact ld_blk hq rfl | exact hq | exact cellAt_ext (hsa i (by omega)).2 hX | exact cellAt_ext (hsa i (by omega)).1 hX) rfl (by rfl) rfl) pn ?_
            rintro v12_12 H12_12 ⟨hU12_12, hZ12_12⟩
            have hX := hX.ofBut hU12_12.but hgq
            have hr := hr.but hU12_12.but hnrq
            have hw := hw.but hU12_12.but hnwq
            have hq := hU12_12.blk
            refine ⟨okn, ?_⟩
            refine xp_pure (i := 13) rfl (by kernel_rfl) (by kernel_rfl) rfl rfl rfl (pv_assign (v := .int _ _) rfl rfl) ?_
            refine xp_done (by kernel_rfl) ?_
            refine xthen_normal ?_
            refine xc_seq ?_
            refine xc_seq ?_
            refine xc_region ?_
            refine xl_pure rfl rfl rfl (pv_move (v := .int _ _) rfl rfl) ?_
            refine xl_ndec rfl rfl rfl (pv_neq rfl rfl rfl) (fun h13_1 => ?_) (fun h13_1 => ?_)
            · exact absurd h13_1 (by decide)
            · skip
              refine xl_nil ?_
              refine xthen_normal ?_
              refine xc_cond_t rfl ?_
              refine xc_seq ?_
              refine xc_seq ?_
              refine xc_region ?_
              refine xl_light rfl rfl rfl (lv_load (v := .agg _) rfl rfl (by first | exact ld_blk_a hr rfl rfl | exact ld_blk hr rfl | exact hr | exact ld_blk_a hw rfl rfl | exact ld_blk hw rfl | exact hw | exact ld_blk_a hq rfl rfl | exact ld_blk hq rfl | exact hq | exact cellAt_ext (hsa i (by omega)).2 hX | exact cellAt_ext (hsa i (by omega)).1 hX)) ?_
              refine xl_pure rfl rfl rfl (pv_build_s (cs := [.int _ _, .int _ _, .int _ _, .int _ _, .int _ _, .int _ _, .int _ _, .int _ _, .int _ _, .int _ _, .int _ _, .slice _ _ _, .int _ _, .int _ _, .int _ _, .int _ _]) rfl rfl rfl) ?_
              refine xl_heavy rfl rfl rfl (hv_call (g := 9) rfl rfl (c9 J0 J0 _ _ _ _ (.inl rfl) (.inl rfl) (by decide)) rfl) ?_
              rintro v14_2 H14_2 ⟨r14_2, rfl, hb14_2, hE14_2⟩
              have hX := hX.trans hE14_2
              have hr := hr.ext hE14_2
              obtain rfl : r14_2 = true := hb14_2.2 rfl
              refine xl_pure rfl rfl rfl (pv_not rfl rfl) ?_
              refine xl_nil ?_
              refine xthen_normal ?_
              refine xc_cond_f rfl ?_
              refine xc_skip ?_
              refine xthen_normal ?_
              refine xc_exit ?_
              refine xthen_exit ?_
              refine xblock_same ?_
              refine xthen_normal ?_
              refine xc_region ?_
              refine xl_pure rfl rfl rfl (pv_move (v := .int _ _) rfl rfl) ?_
              refine xl_pure rfl rfl rfl (pv_add rfl rfl rfl (fit_i64 (by omega))) ?_
              refine xl_pure rfl rfl rfl (pv_assign (v := .int _ _) rfl rfl) ?_
              refine xl_nil ?_
              refine xthen_normal ?_
              first
                | exact ⟨(j, a, c, _, ran, i + 1), ⟨rfl, rfl, rfl, rfl, rfl, trivial⟩, ⟨(by (try simp only); omega), hinv, (by (try simp only); omega), (by (try simp only); omega), hr, hX⟩, (by (try simp only); omega)⟩
                | exact ⟨(_, _, _, _, ran2, i + 1), ⟨rfl, rfl, rfl, rfl, rfl, trivial⟩, ⟨(by (try simp only); omega), ⟨hgx, hxn, (by (try simp only); omega), (by unfold Step at hstep; (try simp only); omega), (by unfold Step at hstep; (try simp only); omega), (by unfold Step at hstep; (try simp only); intro h; omega)⟩, (by (try simp only); omega), (by (try simp only); omega), hr, hX⟩, (by (try simp only); omega)⟩
          · skip
            have hdd := hd12_7.trans hdd
            simp only [Prod.mk.injEq] at hdd
            obtain ⟨rfl, rfl⟩ := hdd
            have hxn : j12_7.needs.length = 0 := by rw [hnx]; exact hinv.needs
            refine xp_pure (i := 8) rfl (by kernel_rfl) (by kernel_rfl) rfl rfl rfl (pv_move (v := .tuple _) rfl rfl) ?_
            refine xp_pure (i := 9) rfl (by kernel_rfl) (by kernel_rfl) rfl rfl rfl (pv_extract (v := .agg _) rfl rfl rfl) ?_
            refine xp_pure (i := 10) rfl (by kernel_rfl) (by kernel_rfl) rfl rfl rfl (pv_extract (v := .int _ _) rfl rfl rfl) ?_
            refine xp_heavy (i := 11) (by kernel_rfl) ?_
            refine xph_val rfl rfl rfl rfl (hv_alloc rfl rfl) pn ?_
            rintro v12_11 H12_11 ⟨b12_11, rfl, hN12_11⟩
            have hgq := Nat.le_trans hX.size hN12_11.ge
            have hX := hX.trans hN12_11.ext
            have hnrq := hr.fresh hN12_11.ge
            have hnwq := hw.fresh hN12_11.ge
            have hr := hr.ext hN12_11.ext
            have hw := hw.ext hN12_11.ext
            have hq := hN12_11.blk
            refine ⟨okn, ?_⟩
            refine xp_heavy (i := 12) (by kernel_rfl) ?_
            refine xph_store rfl rfl rfl (hv_storeA (vs := [.int _ _, .int _ _, .int _ _, .int _ _, .int _ _, .int _ _, .int _ _, .int _ _, .int _ _, .int _ _, .int _ _, .slice _ _ _, .int _ _, .int _ _, .int _ _, .int _ _]) rfl rfl rfl (by first | exact ld_blk_a hr rfl rfl | exact ld_blk hr rfl | exact hr | exact ld_blk_a hw rfl rfl | exact ld_blk hw rfl | exact hw | exact ld_blk_a hq rfl rfl | exact ld_blk hq rfl | exact hq | exact cellAt_ext (hsa i (by omega)).2 hX | exact cellAt_ext (hsa i (by omega)).1 hX) rfl (by rfl) rfl) pn ?_
            rintro v12_12 H12_12 ⟨hU12_12, hZ12_12⟩
            have hX := hX.ofBut hU12_12.but hgq
            have hr := hr.but hU12_12.but hnrq
            have hw := hw.but hU12_12.but hnwq
            have hq := hU12_12.blk
            refine ⟨okn, ?_⟩
            refine xp_pure (i := 13) rfl (by kernel_rfl) (by kernel_rfl) rfl rfl rfl (pv_assign (v := .int _ _) rfl rfl) ?_
            refine xp_done (by kernel_rfl) ?_
            refine xthen_normal ?_
            refine xc_seq ?_
            refine xc_seq ?_
            refine xc_region ?_
            refine xl_pure rfl rfl rfl (pv_move (v := .int _ _) rfl rfl) ?_
            refine xl_ndec rfl rfl rfl (pv_neq rfl rfl rfl) (fun h13_1 => ?_) (fun h13_1 => ?_)
            · skip
              refine xl_nil ?_
              refine xthen_normal ?_
              refine xc_cond_f rfl ?_
              refine xc_skip ?_
              refine xthen_normal ?_
              refine xc_cut (τ := Int) (fun t => [(1, .slice (some ⟨ba, off, none⟩) l.length cl), (5, .pointer (some ⟨b3_1, 0, none⟩)), (6, .int .i64 (now + gq l i % 65536)), (7, .int .i64 t), (8, .int .i64 (i : Nat)), (9, .pointer (some ⟨b11_1, 0, none⟩)), (10, .pointer (some ⟨b12_11, 0, none⟩))]) (fun t H' => (j.st = 2 ∧ j12_7.st = 3 ∧ t = ran + (now + gq l i % 65536) - j.beg ∨ ¬ (j.st = 2 ∧ j12_7.st = 3) ∧ t = ran) ∧ H12_12 = H') ?_ ?_
              · skip
                refine xc_seq ?_
                refine xc_region ?_
                refine xl_pure rfl rfl rfl (pv_fieldAddr rfl rfl) ?_
                refine xl_light rfl rfl rfl (lv_load (v := .int _ _) rfl rfl (by first | exact ld_blk_a hr rfl rfl | exact ld_blk hr rfl | exact hr | exact ld_blk_a hw rfl rfl | exact ld_blk hw rfl | exact hw | exact ld_blk_a hq rfl rfl | exact ld_blk hq rfl | exact hq | exact cellAt_ext (hsa i (by omega)).2 hX | exact cellAt_ext (hsa i (by omega)).1 hX)) ?_
                refine xl_dec rfl rfl rfl (pv_eql rfl rfl rfl) (fun h16_2 => ?_) (fun h16_2 => ?_)
                · skip
                  refine xl_pure rfl rfl rfl (pv_move (v := .bool _) rfl rfl) ?_
                  refine xl_pure rfl rfl rfl (pv_fieldAddr rfl rfl) ?_
                  refine xl_light rfl rfl rfl (lv_load (v := .int _ _) rfl rfl (by first | exact ld_blk_a hr rfl rfl | exact ld_blk hr rfl | exact hr | exact ld_blk_a hw rfl rfl | exact ld_blk hw rfl | exact hw | exact ld_blk_a hq rfl rfl | exact ld_blk hq rfl | exact hq | exact cellAt_ext (hsa i (by omega)).2 hX | exact cellAt_ext (hsa i (by omega)).1 hX)) ?_
                  refine xl_dec rfl rfl rfl (pv_eql rfl rfl rfl) (fun h16_6 => ?_) (fun h16_6 => ?_)
                  · skip
                    refine xl_pure rfl rfl rfl (pv_pick_t (v := .bool _) rfl rfl rfl) ?_
                    refine xl_nil ?_
                    refine xthen_normal ?_
                    refine xc_cond_t rfl ?_
                    refine xc_region ?_
                    refine xl_pure rfl rfl rfl (pv_move (v := .int _ _) rfl rfl) ?_
                    refine xl_pure rfl rfl rfl (pv_move (v := .int _ _) rfl rfl) ?_
                    refine xl_pure rfl rfl rfl (pv_add rfl rfl rfl (fit_i64 (by omega))) ?_
                    refine xl_pure rfl rfl rfl (pv_fieldAddr rfl rfl) ?_
                    refine xl_light rfl rfl rfl (lv_load (v := .int _ _) rfl rfl (by first | exact ld_blk_a hr rfl rfl | exact ld_blk hr rfl | exact hr | exact ld_blk_a hw rfl rfl | exact ld_blk hw rfl | exact hw | exact ld_blk_a hq rfl rfl | exact ld_blk hq rfl | exact hq | exact cellAt_ext (hsa i (by omega)).2 hX | exact cellAt_ext (hsa i (by omega)).1 hX)) ?_
                    refine xl_pure rfl rfl rfl (pv_sub rfl rfl rfl (fit_i64 (by omega))) ?_
                    refine xl_pure rfl rfl rfl (pv_assign (v := .int _ _) rfl rfl) ?_
                    refine xl_nil ?_
                    refine xthen_normal ?_
                    first
                      | exact ⟨_, ⟨rfl, rfl, rfl, rfl, rfl, rfl, rfl, trivial⟩, .inl ⟨h16_2, h16_6, rfl⟩, rfl⟩
                      | exact ⟨_, ⟨rfl, rfl, rfl, rfl, rfl, rfl, rfl, trivial⟩, .inr ⟨by omega, rfl⟩, rfl⟩
                  · skip
                    refine xl_pure rfl rfl rfl (pv_pick_t (v := .bool _) rfl rfl rfl) ?_
                    refine xl_nil ?_
                    refine xthen_normal ?_
                    refine xc_cond_f rfl ?_
                    refine xc_skip ?_
                    refine xthen_normal ?_
                    first
                      | exact ⟨_, ⟨rfl, rfl, rfl, rfl, rfl, rfl, rfl, trivial⟩, .inl ⟨h16_2, h16_6, rfl⟩, rfl⟩
                      | exact ⟨_, ⟨rfl, rfl, rfl, rfl, rfl, rfl, rfl, trivial⟩, .inr ⟨by omega, rfl⟩, rfl⟩
                · skip
                  refine xl_pure rfl rfl rfl (pv_move (v := .bool _) rfl rfl) ?_
                  refine xl_skip rfl rfl rfl ?_
                  refine xl_skip rfl rfl rfl ?_
                  refine xl_skip rfl rfl rfl ?_
                  refine xl_pure rfl rfl rfl (pv_pick_f (v := .bool _) rfl rfl rfl) ?_
                  refine xl_nil ?_
                  refine xthen_normal ?_
                  refine xc_cond_f rfl ?_
                  refine xc_skip ?_
                  refine xthen_normal ?_
                  first
                    | exact ⟨_, ⟨rfl, rfl, rfl, rfl, rfl, rfl, rfl, trivial⟩, .inl ⟨h16_2, h16_6, rfl⟩, rfl⟩
                    | exact ⟨_, ⟨rfl, rfl, rfl, rfl, rfl, rfl, rfl, trivial⟩, .inr ⟨by omega, rfl⟩, rfl⟩
              · intro σ
                rintro ran2 Hm ⟨hrn, rfl⟩
                show XC _ _ _ (upds σ [(1, .slice (some ⟨ba, off, none⟩) l.length cl), (5, .pointer (some ⟨b3_1, 0, none⟩)), (6, .int .i64 (now + gq l i % 65536)), (7, .int .i64 ran2), (8, .int .i64 (i : Nat)), (9, .pointer (some ⟨b11_1, 0, none⟩)), (10, .pointer (some ⟨b12_11, 0, none⟩))]) _
                refine xc_seq ?_
                refine xc_seq ?_
                refine xc_region ?_
                refine xl_pure rfl rfl rfl (pv_fieldAddr rfl rfl) ?_
                refine xl_light rfl rfl rfl (lv_load (v := .int _ _) rfl rfl (by first | exact ld_blk_a hr rfl rfl | exact ld_blk hr rfl | exact hr | exact ld_blk_a hw rfl rfl | exact ld_blk hw rfl | exact hw | exact ld_blk_a hq rfl rfl | exact ld_blk hq rfl | exact hq | exact cellAt_ext (hsa i (by omega)).2 hX | exact cellAt_ext (hsa i (by omega)).1 hX)) ?_
                refine xl_dec rfl rfl rfl (pv_eql rfl rfl rfl) (fun h18_2 => ?_) (fun h18_2 => ?_)
                · skip
                  refine xl_pure rfl rfl rfl (pv_move (v := .bool _) rfl rfl) ?_
                  refine xl_pure rfl rfl rfl (pv_fieldAddr rfl rfl) ?_
                  refine xl_light rfl rfl rfl (lv_load (v := .int _ _) rfl rfl (by first | exact ld_blk_a hr rfl rfl | exact ld_blk hr rfl | exact hr | exact ld_blk_a hw rfl rfl | exact ld_blk hw rfl | exact hw | exact ld_blk_a hq rfl rfl | exact ld_blk hq rfl | exact hq | exact cellAt_ext (hsa i (by omega)).2 hX | exact cellAt_ext (hsa i (by omega)).1 hX)) ?_
                  refine xl_dec rfl rfl rfl (pv_eql rfl rfl rfl) (fun h18_6 => ?_) (fun h18_6 => ?_)
                  · skip
                    refine xl_pure rfl rfl rfl (pv_pick_t (v := .bool _) rfl rfl rfl) ?_
                    refine xl_pure rfl rfl rfl (pv_move (v := .bool _) rfl rfl) ?_
                    refine xl_pure rfl rfl rfl (pv_move (v := .int _ _) rfl rfl) ?_
                    refine xl_pure rfl rfl rfl (pv_fieldAddr rfl rfl) ?_
                    refine xl_light rfl rfl rfl (lv_load (v := .int _ _) rfl rfl (by first | exact ld_blk_a hr rfl rfl | exact ld_blk hr rfl | exact hr | exact ld_blk_a hw rfl rfl | exact ld_blk hw rfl | exact hw | exact ld_blk_a hq rfl rfl | exact ld_blk hq rfl | exact hq | exact cellAt_ext (hsa i (by omega)).2 hX | exact cellAt_ext (hsa i (by omega)).1 hX)) ?_
                    refine xl_pure rfl rfl rfl (pv_add rfl rfl rfl (fit_i64 (by omega))) ?_
                    refine xl_pure rfl rfl rfl (pv_fieldAddr rfl rfl) ?_
                    refine xl_light rfl rfl rfl (lv_load (v := .int _ _) rfl rfl (by first | exact ld_blk_a hr rfl rfl | exact ld_blk hr rfl | exact hr | exact ld_blk_a hw rfl rfl | exact ld_blk hw rfl | exact hw | exact ld_blk_a hq rfl rfl | exact ld_blk hq rfl | exact hq | exact cellAt_ext (hsa i (by omega)).2 hX | exact cellAt_ext (hsa i (by omega)).1 hX)) ?_
                    refine xl_pure rfl rfl rfl (pv_sub rfl rfl rfl (fit_i64 (by omega))) ?_
                    refine xl_pure rfl rfl rfl (pv_fieldAddr rfl rfl) ?_
                    refine xl_light rfl rfl rfl (lv_load (v := .int _ _) rfl rfl (by first | exact ld_blk_a hr rfl rfl | exact ld_blk hr rfl | exact hr | exact ld_blk_a hw rfl rfl | exact ld_blk hw rfl | exact hw | exact ld_blk_a hq rfl rfl | exact ld_blk hq rfl | exact hq | exact cellAt_ext (hsa i (by omega)).2 hX | exact cellAt_ext (hsa i (by omega)).1 hX)) ?_
                    refine xl_ndec rfl rfl rfl (pv_neq rfl rfl rfl) (fun h18_18 => ?_) (fun h18_18 => ?_)
                    · skip
                      refine xl_pure rfl rfl rfl (pv_move (v := .bool _) rfl rfl) ?_
                      refine xl_pure rfl rfl rfl (pv_move (v := .int _ _) rfl rfl) ?_
                      refine xl_pure rfl rfl rfl (pv_fieldAddr rfl rfl) ?_
                      refine xl_light rfl rfl rfl (lv_load (v := .int _ _) rfl rfl (by first | exact ld_blk_a hr rfl rfl | exact ld_blk hr rfl | exact hr | exact ld_blk_a hw rfl rfl | exact ld_blk hw rfl | exact hw | exact ld_blk_a hq rfl rfl | exact ld_blk hq rfl | exact hq | exact cellAt_ext (hsa i (by omega)).2 hX | exact cellAt_ext (hsa i (by omega)).1 hX)) ?_
                      refine xl_dec rfl rfl rfl (pv_lss rfl rfl rfl) (fun h18_23 => ?_) (fun h18_23 => ?_)
                      · exact absurd h18_23 (by unfold Step at hstep; omega)
                      · skip
                        refine xl_pure rfl rfl rfl (pv_pick_f (v := .bool _) rfl rfl rfl) ?_
                        refine xl_pure rfl rfl rfl (pv_pick_t (v := .bool _) rfl rfl rfl) ?_
                        refine xl_nil ?_
                        refine xthen_normal ?_
                        refine xc_cond_f rfl ?_
                        refine xc_skip ?_
                        refine xthen_normal ?_
                        refine xc_seq ?_
                        refine xc_seq ?_
                        refine xc_region ?_
                        refine xl_light rfl rfl rfl (lv_load (v := .agg _) rfl rfl (by first | exact ld_blk_a hr rfl rfl | exact ld_blk hr rfl | exact hr | exact ld_blk_a hw rfl rfl | exact ld_blk hw rfl | exact hw | exact ld_blk_a hq rfl rfl | exact ld_blk hq rfl | exact hq | exact cellAt_ext (hsa i (by omega)).2 hX | exact cellAt_ext (hsa i (by omega)).1 hX)) ?_
                        refine xl_heavy rfl rfl rfl (hv_call (g := 10) rfl rfl (c10 _ _ _ (.inl hxn) (by omega)) rfl) ?_
                        rintro v20_1 H20_1 ⟨e20_1, rfl, hg20_1, hE20_1⟩
                        have hX := hX.trans hE20_1
                        have hr := hr.ext hE20_1
                        have hw := hw.ext hE20_1
                        try have hq := hq.ext hE20_1
                        obtain rfl : e20_1 = 0 := by
                          rcases hg20_1 with ⟨_, h⟩ | ⟨h, _⟩
                          · exact h
                          · exact absurd hgx h
                        refine xl_ndec rfl rfl rfl (pv_neq rfl rfl rfl) (fun h20_2 => ?_) (fun h20_2 => ?_)
                        · skip
                          refine xl_pure rfl rfl rfl (pv_move (v := .bool _) rfl rfl) ?_
                          refine xl_light rfl rfl rfl (lv_load (v := .agg _) rfl rfl (by first | exact ld_blk_a hr rfl rfl | exact ld_blk hr rfl | exact hr | exact ld_blk_a hw rfl rfl | exact ld_blk hw rfl | exact hw | exact ld_blk_a hq rfl rfl | exact ld_blk hq rfl | exact hq | exact cellAt_ext (hsa i (by omega)).2 hX | exact cellAt_ext (hsa i (by omega)).1 hX)) ?_
                          refine xl_heavy rfl rfl rfl (hv_call (g := 11) rfl rfl (c11 j a c) rfl) ?_
                          rintro v20_5 H20_5 ⟨r20_5, rfl, hb20_5, hE20_5⟩
                          have hX := hX.trans hE20_5
                          have hr := hr.ext hE20_5
                          have hw := hw.ext hE20_5
                          try have hq := hq.ext hE20_5
                          obtain rfl : r20_5 = true := hb20_5.2 (by unfold Step at hstep; omega)
                          refine xl_pure rfl rfl rfl (pv_not rfl rfl) ?_
                          refine xl_pure rfl rfl rfl (pv_pick_f (v := .bool _) rfl rfl rfl) ?_
                          refine xl_pure rfl rfl rfl (pv_move (v := .bool _) rfl rfl) ?_
                          refine xl_pure rfl rfl rfl (pv_fieldAddr rfl rfl) ?_
                          refine xl_light rfl rfl rfl (lv_load (v := .int _ _) rfl rfl (by first | exact ld_blk_a hr rfl rfl | exact ld_blk hr rfl | exact hr | exact ld_blk_a hw rfl rfl | exact ld_blk hw rfl | exact hw | exact ld_blk_a hq rfl rfl | exact ld_blk hq rfl | exact hq | exact cellAt_ext (hsa i (by omega)).2 hX | exact cellAt_ext (hsa i (by omega)).1 hX)) ?_
                          refine xl_dec rfl rfl rfl (pv_eql rfl rfl rfl) (fun h20_11 => ?_) (fun h20_11 => ?_)
                          · skip
                            refine xl_pure rfl rfl rfl (pv_move (v := .bool _) rfl rfl) ?_
                            refine xl_pure rfl rfl rfl (pv_fieldAddr rfl rfl) ?_
                            refine xl_light rfl rfl rfl (lv_load (v := .int _ _) rfl rfl (by first | exact ld_blk_a hr rfl rfl | exact ld_blk hr rfl | exact hr | exact ld_blk_a hw rfl rfl | exact ld_blk hw rfl | exact hw | exact ld_blk_a hq rfl rfl | exact ld_blk hq rfl | exact hq | exact cellAt_ext (hsa i (by omega)).2 hX | exact cellAt_ext (hsa i (by omega)).1 hX)) ?_
                            refine xl_pure rfl rfl rfl (pv_fieldAddr rfl rfl) ?_
                            refine xl_light rfl rfl rfl (lv_load (v := .int _ _) rfl rfl (by first | exact ld_blk_a hr rfl rfl | exact ld_blk hr rfl | exact hr | exact ld_blk_a hw rfl rfl | exact ld_blk hw rfl | exact hw | exact ld_blk_a hq rfl rfl | exact ld_blk hq rfl | exact hq | exact cellAt_ext (hsa i (by omega)).2 hX | exact cellAt_ext (hsa i (by omega)).1 hX)) ?_
                            refine xl_pure rfl rfl rfl (pv_move (v := .int _ _) rfl rfl) ?_
                            refine xl_pure rfl rfl rfl (pv_sub rfl rfl rfl (fit_i64 (by omega))) ?_
                            refine xl_ndec rfl rfl rfl (pv_neq rfl rfl rfl) (fun h20_19 => ?_) (fun h20_19 => ?_)
                            · skip
                              refine xl_pure rfl rfl rfl (pv_pick_t (v := .bool _) rfl rfl rfl) ?_
                              refine xl_pure rfl rfl rfl (pv_pick_f (v := .bool _) rfl rfl rfl) ?_
                              refine xl_nil ?_
                              refine xthen_normal ?_
                              refine xc_cond_f rfl ?_
                              refine xc_skip ?_
                              refine xthen_normal ?_
                              refine xc_region ?_
                              refine xl_light rfl rfl rfl (lv_load (v := .agg _) rfl rfl (by first | exact ld_blk_a hr rfl rfl | exact ld_blk hr rfl | exact hr | exact ld_blk_a hw rfl rfl | exact ld_blk hw rfl | exact hw | exact ld_blk_a hq rfl rfl | exact ld_blk hq rfl | exact hq | exact cellAt_ext (hsa i (by omega)).2 hX | exact cellAt_ext (hsa i (by omega)).1 hX)) ?_
                              refine xl_store rfl rfl (hv_storeA (vs := [.int _ _, .int _ _, .int _ _, .int _ _, .int _ _, .int _ _, .int _ _, .int _ _, .int _ _, .int _ _, .int _ _, .slice _ _ _, .int _ _, .int _ _, .int _ _, .int _ _]) rfl rfl rfl (by first | exact ld_blk_a hr rfl rfl | exact ld_blk hr rfl | exact hr | exact ld_blk_a hw rfl rfl | exact ld_blk hw rfl | exact hw | exact ld_blk_a hq rfl rfl | exact ld_blk hq rfl | exact hq | exact cellAt_ext (hsa i (by omega)).2 hX | exact cellAt_ext (hsa i (by omega)).1 hX) rfl (by rfl) rfl) ?_
                              rintro v22_1 H22_1 ⟨hU22_1, hZ22_1⟩
                              have hX := hX.ofBut hU22_1.but hge
                              have hr := hU22_1.blk
                              refine xl_nil ?_
                              refine xblock_normal ?_
                              refine xthen_normal ?_
                              refine xc_region ?_
                              refine xl_pure rfl rfl rfl (pv_move (v := .int _ _) rfl rfl) ?_
                              refine xl_pure rfl rfl rfl (pv_add rfl rfl rfl (fit_i64 (by omega))) ?_
                              refine xl_pure rfl rfl rfl (pv_assign (v := .int _ _) rfl rfl) ?_
                              refine xl_nil ?_
                              refine xthen_normal ?_
                              first
                                | exact ⟨(j, a, c, _, ran, i + 1), ⟨rfl, rfl, rfl, rfl, rfl, trivial⟩, ⟨(by (try simp only); omega), hinv, (by (try simp only); omega), (by (try simp only); omega), hr, hX⟩, (by (try simp only); omega)⟩
                                | exact ⟨(_, _, _, _, ran2, i + 1), ⟨rfl, rfl, rfl, rfl, rfl, trivial⟩, ⟨(by (try simp only); omega), ⟨hgx, hxn, (by (try simp only); omega), (by unfold Step at hstep; (try simp only); omega), (by unfold Step at hstep; (try simp only); omega), (by unfold Step at hstep; (try simp only); intro h; omega)⟩, (by (try simp only); omega), (by (try simp only); omega), hr, hX⟩, (by (try simp only); omega)⟩
                            · exact absurd (by unfold Step at hstep; omega) h20_19
                          · skip
                            refine xl_pure rfl rfl rfl (pv_move (v := .bool _) rfl rfl) ?_
                            refine xl_skip rfl rfl rfl ?_
                            refine xl_skip rfl rfl rfl ?_
                            refine xl_skip rfl rfl rfl ?_
                            refine xl_skip rfl rfl rfl ?_
                            refine xl_skip rfl rfl rfl ?_
                            refine xl_skip rfl rfl rfl ?_
                            refine xl_skip rfl rfl rfl ?_
                            refine xl_pure rfl rfl rfl (pv_pick_f (v := .bool _) rfl rfl rfl) ?_
                            refine xl_pure rfl rfl rfl (pv_pick_f (v := .bool _) rfl rfl rfl) ?_
                            refine xl_nil ?_
                            refine xthen_normal ?_
                            refine xc_cond_f rfl ?_
                            refine xc_skip ?_
                            refine xthen_normal ?_
                            refine xc_region ?_
                            refine xl_light rfl rfl rfl (lv_load (v := .agg _) rfl rfl (by first | exact ld_blk_a hr rfl rfl | exact ld_blk hr rfl | exact hr | exact ld_blk_a hw rfl rfl | exact ld_blk hw rfl | exact hw | exact ld_blk_a hq rfl rfl | exact ld_blk hq rfl | exact hq | exact cellAt_ext (hsa i (by omega)).2 hX | exact cellAt_ext (hsa i (by omega)).1 hX)) ?_
                            refine xl_store rfl rfl (hv_storeA (vs := [.int _ _, .int _ _, .int _ _, .int _ _, .int _ _, .int _ _, .int _ _, .int _ _, .int _ _, .int _ _, .int _ _, .slice _ _ _, .int _ _, .int _ _, .int _ _, .int _ _]) rfl rfl rfl (by first | exact ld_blk_a hr rfl rfl | exact ld_blk hr rfl | exact hr | exact ld_blk_a hw rfl rfl | exact ld_blk hw rfl | exact hw | exact ld_blk_a hq rfl rfl | exact ld_blk hq rfl | exact hq | exact cellAt_ext (hsa i (by omega)).2 hX | exact cellAt_ext (hsa i (by omega)).1 hX) rfl (by rfl) rfl) ?_
                            rintro v22_1 H22_1 ⟨hU22_1, hZ22_1⟩
                            have hX := hX.ofBut hU22_1.but hge
                            have hr := hU22_1.blk
                            refine xl_nil ?_
                            refine xblock_normal ?_
                            refine xthen_normal ?_
                            refine xc_region ?_
                            refine xl_pure rfl rfl rfl (pv_move (v := .int _ _) rfl rfl) ?_
                            refine xl_pure rfl rfl rfl (pv_add rfl rfl rfl (fit_i64 (by omega))) ?_
                            refine xl_pure rfl rfl rfl (pv_assign (v := .int _ _) rfl rfl) ?_
                            refine xl_nil ?_
                            refine xthen_normal ?_
                            first
                              | exact ⟨(j, a, c, _, ran, i + 1), ⟨rfl, rfl, rfl, rfl, rfl, trivial⟩, ⟨(by (try simp only); omega), hinv, (by (try simp only); omega), (by (try simp only); omega), hr, hX⟩, (by (try simp only); omega)⟩
                              | exact ⟨(_, _, _, _, ran2, i + 1), ⟨rfl, rfl, rfl, rfl, rfl, trivial⟩, ⟨(by (try simp only); omega), ⟨hgx, hxn, (by (try simp only); omega), (by unfold Step at hstep; (try simp only); omega), (by unfold Step at hstep; (try simp only); omega), (by unfold Step at hstep; (try simp only); intro h; omega)⟩, (by (try simp only); omega), (by (try simp only); omega), hr, hX⟩, (by (try simp only); omega)⟩
                        · exact absurd (by decide) h20_2
                    · exact absurd (by omega) h18_18
                  · skip
                    refine xl_pure rfl rfl rfl (pv_pick_t (v := .bool _) rfl rfl rfl) ?_
                    refine xl_pure rfl rfl rfl (pv_move (v := .bool _) rfl rfl) ?_
                    refine xl_skip rfl rfl rfl ?_
                    refine xl_skip rfl rfl rfl ?_
                    refine xl_skip rfl rfl rfl ?_
                    refine xl_skip rfl rfl rfl ?_
                    refine xl_skip rfl rfl rfl ?_
                    refine xl_skip rfl rfl rfl ?_
                    refine xl_skip rfl rfl rfl ?_
                    refine xl_skip rfl rfl rfl ?_
                    refine xl_skip rfl rfl rfl ?_
                    refine xl_skip rfl rfl rfl ?_
                    refine xl_skip rfl rfl rfl ?_
                    refine xl_skip rfl rfl rfl ?_
                    refine xl_skip rfl rfl rfl ?_
                    refine xl_skip rfl rfl rfl ?_
                    refine xl_skip rfl rfl rfl ?_
                    refine xl_skip rfl rfl rfl ?_
                    refine xl_pure rfl rfl rfl (pv_pick_f (v := .bool _) rfl rfl rfl) ?_
                    refine xl_nil ?_
                    refine xthen_normal ?_
                    refine xc_cond_f rfl ?_
                    refine xc_skip ?_
                    refine xthen_normal ?_
                    refine xc_seq ?_
                    refine xc_seq ?_
                    refine xc_region ?_
                    refine xl_light rfl rfl rfl (lv_load (v := .agg _) rfl rfl (by first | exact ld_blk_a hr rfl rfl | exact ld_blk hr rfl | exact hr | exact ld_blk_a hw rfl rfl | exact ld_blk hw rfl | exact hw | exact ld_blk_a hq rfl rfl | exact ld_blk hq rfl | exact hq | exact cellAt_ext (hsa i (by omega)).2 hX | exact cellAt_ext (hsa i (by omega)).1 hX)) ?_
                    refine xl_heavy rfl rfl rfl (hv_call (g := 10) rfl rfl (c10 _ _ _ (.inl hxn) (by omega)) rfl) ?_
                    rintro v20_1 H20_1 ⟨e20_1, rfl, hg20_1, hE20_1⟩
                    have hX := hX.trans hE20_1
                    have hr := hr.ext hE20_1
                    have hw := hw.ext hE20_1
                    try have hq := hq.ext hE20_1
                    obtain rfl : e20_1 = 0 := by
                      rcases hg20_1 with ⟨_, h⟩ | ⟨h, _⟩
                      · exact h
                      · exact absurd hgx h
                    refine xl_ndec rfl rfl rfl (pv_neq rfl rfl rfl) (fun h20_2 => ?_) (fun h20_2 => ?_)
                    · skip
                      refine xl_pure rfl rfl rfl (pv_move (v := .bool _) rfl rfl) ?_
                      refine xl_light rfl rfl rfl (lv_load (v := .agg _) rfl rfl (by first | exact ld_blk_a hr rfl rfl | exact ld_blk hr rfl | exact hr | exact ld_blk_a hw rfl rfl | exact ld_blk hw rfl | exact hw | exact ld_blk_a hq rfl rfl | exact ld_blk hq rfl | exact hq | exact cellAt_ext (hsa i (by omega)).2 hX | exact cellAt_ext (hsa i (by omega)).1 hX)) ?_
                      refine xl_heavy rfl rfl rfl (hv_call (g := 11) rfl rfl (c11 j a c) rfl) ?_
                      rintro v20_5 H20_5 ⟨r20_5, rfl, hb20_5, hE20_5⟩
                      have hX := hX.trans hE20_5
                      have hr := hr.ext hE20_5
                      have hw := hw.ext hE20_5
                      try have hq := hq.ext hE20_5
                      obtain rfl : r20_5 = true := hb20_5.2 (by unfold Step at hstep; omega)
                      refine xl_pure rfl rfl rfl (pv_not rfl rfl) ?_
                      refine xl_pure rfl rfl rfl (pv_pick_f (v := .bool _) rfl rfl rfl) ?_
                      refine xl_pure rfl rfl rfl (pv_move (v := .bool _) rfl rfl) ?_
                      refine xl_pure rfl rfl rfl (pv_fieldAddr rfl rfl) ?_
                      refine xl_light rfl rfl rfl (lv_load (v := .int _ _) rfl rfl (by first | exact ld_blk_a hr rfl rfl | exact ld_blk hr rfl | exact hr | exact ld_blk_a hw rfl rfl | exact ld_blk hw rfl | exact hw | exact ld_blk_a hq rfl rfl | exact ld_blk hq rfl | exact hq | exact cellAt_ext (hsa i (by omega)).2 hX | exact cellAt_ext (hsa i (by omega)).1 hX)) ?_
                      refine xl_dec rfl rfl rfl (pv_eql rfl rfl rfl) (fun h20_11 => ?_) (fun h20_11 => ?_)
                      · skip
                        refine xl_pure rfl rfl rfl (pv_move (v := .bool _) rfl rfl) ?_
                        refine xl_pure rfl rfl rfl (pv_fieldAddr rfl rfl) ?_
                        refine xl_light rfl rfl rfl (lv_load (v := .int _ _) rfl rfl (by first | exact ld_blk_a hr rfl rfl | exact ld_blk hr rfl | exact hr | exact ld_blk_a hw rfl rfl | exact ld_blk hw rfl | exact hw | exact ld_blk_a hq rfl rfl | exact ld_blk hq rfl | exact hq | exact cellAt_ext (hsa i (by omega)).2 hX | exact cellAt_ext (hsa i (by omega)).1 hX)) ?_
                        refine xl_pure rfl rfl rfl (pv_fieldAddr rfl rfl) ?_
                        refine xl_light rfl rfl rfl (lv_load (v := .int _ _) rfl rfl (by first | exact ld_blk_a hr rfl rfl | exact ld_blk hr rfl | exact hr | exact ld_blk_a hw rfl rfl | exact ld_blk hw rfl | exact hw | exact ld_blk_a hq rfl rfl | exact ld_blk hq rfl | exact hq | exact cellAt_ext (hsa i (by omega)).2 hX | exact cellAt_ext (hsa i (by omega)).1 hX)) ?_
                        refine xl_pure rfl rfl rfl (pv_move (v := .int _ _) rfl rfl) ?_
                        refine xl_pure rfl rfl rfl (pv_sub rfl rfl rfl (fit_i64 (by omega))) ?_
                        refine xl_ndec rfl rfl rfl (pv_neq rfl rfl rfl) (fun h20_19 => ?_) (fun h20_19 => ?_)
                        · skip
                          refine xl_pure rfl rfl rfl (pv_pick_t (v := .bool _) rfl rfl rfl) ?_
                          refine xl_pure rfl rfl rfl (pv_pick_f (v := .bool _) rfl rfl rfl) ?_
                          refine xl_nil ?_
                          refine xthen_normal ?_
                          refine xc_cond_f rfl ?_
                          refine xc_skip ?_
                          refine xthen_normal ?_
                          refine xc_region ?_
                          refine xl_light rfl rfl rfl (lv_load (v := .agg _) rfl rfl (by first | exact ld_blk_a hr rfl rfl | exact ld_blk hr rfl | exact hr | exact ld_blk_a hw rfl rfl | exact ld_blk hw rfl | exact hw | exact ld_blk_a hq rfl rfl | exact ld_blk hq rfl | exact hq | exact cellAt_ext (hsa i (by omega)).2 hX | exact cellAt_ext (hsa i (by omega)).1 hX)) ?_
                          refine xl_store rfl rfl (hv_storeA (vs := [.int _ _, .int _ _, .int _ _, .int _ _, .int _ _, .int _ _, .int _ _, .int _ _, .int _ _, .int _ _, .int _ _, .slice _ _ _, .int _ _, .int _ _, .int _ _, .int _ _]) rfl rfl rfl (by first | exact ld_blk_a hr rfl rfl | exact ld_blk hr rfl | exact hr | exact ld_blk_a hw rfl rfl | exact ld_blk hw rfl | exact hw | exact ld_blk_a hq rfl rfl | exact ld_blk hq rfl | exact hq | exact cellAt_ext (hsa i (by omega)).2 hX | exact cellAt_ext (hsa i (by omega)).1 hX) rfl (by rfl) rfl) ?_
                          rintro v22_1 H22_1 ⟨hU22_1, hZ22_1⟩
                          have hX := hX.ofBut hU22_1.but hge
                          have hr := hU22_1.blk
                          refine xl_nil ?_
                          refine xblock_normal ?_
                          refine xthen_normal ?_
                          refine xc_region ?_
                          refine xl_pure rfl rfl rfl (pv_move (v := .int _ _) rfl rfl) ?_
                          refine xl_pure rfl rfl rfl (pv_add rfl rfl rfl (fit_i64 (by omega))) ?_
                          refine xl_pure rfl rfl rfl (pv_assign (v := .int _ _) rfl rfl) ?_
                          refine xl_nil ?_
                          refine xthen_normal ?_
                          first
                            | exact ⟨(j, a, c, _, ran, i + 1), ⟨rfl, rfl, rfl, rfl, rfl, trivial⟩, ⟨(by (try simp only); omega), hinv, (by (try simp only); omega), (by (try simp only); omega), hr, hX⟩, (by (try simp only); omega)⟩
                            | exact ⟨(_, _, _, _, ran2, i + 1), ⟨rfl, rfl, rfl, rfl, rfl, trivial⟩, ⟨(by (try simp only); omega), ⟨hgx, hxn, (by (try simp only); omega), (by unfold Step at hstep; (try simp only); omega), (by unfold Step at hstep; (try simp only); omega), (by unfold Step at hstep; (try simp only); intro h; omega)⟩, (by (try simp only); omega), (by (try simp only); omega), hr, hX⟩, (by (try simp only); omega)⟩
                        · exact absurd (by unfold Step at hstep; omega) h20_19
                      · skip
                        refine xl_pure rfl rfl rfl (pv_move (v := .bool _) rfl rfl) ?_
                        refine xl_skip rfl rfl rfl ?_
                        refine xl_skip rfl rfl rfl ?_
                        refine xl_skip rfl rfl rfl ?_
                        refine xl_skip rfl rfl rfl ?_
                        refine xl_skip rfl rfl rfl ?_
                        refine xl_skip rfl rfl rfl ?_
                        refine xl_skip rfl rfl rfl ?_
                        refine xl_pure rfl rfl rfl (pv_pick_f (v := .bool _) rfl rfl rfl) ?_
                        refine xl_pure rfl rfl rfl (pv_pick_f (v := .bool _) rfl rfl rfl) ?_
                        refine xl_nil ?_
                        refine xthen_normal ?_
                        refine xc_cond_f rfl ?_
                        refine xc_skip ?_
                        refine xthen_normal ?_
                        refine xc_region ?_
                        refine xl_light rfl rfl rfl (lv_load (v := .agg _) rfl rfl (by first | exact ld_blk_a hr rfl rfl | exact ld_blk hr rfl | exact hr | exact ld_blk_a hw rfl rfl | exact ld_blk hw rfl | exact hw | exact ld_blk_a hq rfl rfl | exact ld_blk hq rfl | exact hq | exact cellAt_ext (hsa i (by omega)).2 hX | exact cellAt_ext (hsa i (by omega)).1 hX)) ?_
                        refine xl_store rfl rfl (hv_storeA (vs := [.int _ _, .int _ _, .int _ _, .int _ _, .int _ _, .int _ _, .int _ _, .int _ _, .int _ _, .int _ _, .int _ _, .slice _ _ _, .int _ _, .int _ _, .int _ _, .int _ _]) rfl rfl rfl (by first | exact ld_blk_a hr rfl rfl | exact ld_blk hr rfl | exact hr | exact ld_blk_a hw rfl rfl | exact ld_blk hw rfl | exact hw | exact ld_blk_a hq rfl rfl | exact ld_blk hq rfl | exact hq | exact cellAt_ext (hsa i (by omega)).2 hX | exact cellAt_ext (hsa i (by omega)).1 hX) rfl (by rfl) rfl) ?_
                        rintro v22_1 H22_1 ⟨hU22_1, hZ22_1⟩
                        have hX := hX.ofBut hU22_1.but hge
                        have hr := hU22_1.blk
                        refine xl_nil ?_
                        refine xblock_normal ?_
                        refine xthen_normal ?_
                        refine xc_region ?_
                        refine xl_pure rfl rfl rfl (pv_move (v := .int _ _) rfl rfl) ?_
                        refine xl_pure rfl rfl rfl (pv_add rfl rfl rfl (fit_i64 (by omega))) ?_
                        refine xl_pure rfl rfl rfl (pv_assign (v := .int _ _) rfl rfl) ?_
                        refine xl_nil ?_
                        refine xthen_normal ?_
                        first
                          | exact ⟨(j, a, c, _, ran, i + 1), ⟨rfl, rfl, rfl, rfl, rfl, trivial⟩, ⟨(by (try simp only); omega), hinv, (by (try simp only); omega), (by (try simp only); omega), hr, hX⟩, (by (try simp only); omega)⟩
                          | exact ⟨(_, _, _, _, ran2, i + 1), ⟨rfl, rfl, rfl, rfl, rfl, trivial⟩, ⟨(by (try simp only); omega), ⟨hgx, hxn, (by (try simp only); omega), (by unfold Step at hstep; (try simp only); omega), (by unfold Step at hstep; (try simp only); omega), (by unfold Step at hstep; (try simp only); intro h; omega)⟩, (by (try simp only); omega), (by (try simp only); omega), hr, hX⟩, (by (try simp only); omega)⟩
                    · exact absurd (by decide) h20_2
                · skip
                  refine xl_pure rfl rfl rfl (pv_move (v := .bool _) rfl rfl) ?_
                  refine xl_skip rfl rfl rfl ?_
                  refine xl_skip rfl rfl rfl ?_
                  refine xl_skip rfl rfl rfl ?_
                  refine xl_pure rfl rfl rfl (pv_pick_f (v := .bool _) rfl rfl rfl) ?_
                  refine xl_pure rfl rfl rfl (pv_move (v := .bool _) rfl rfl) ?_
                  refine xl_skip rfl rfl rfl ?_
                  refine xl_skip rfl rfl rfl ?_
                  refine xl_skip rfl rfl rfl ?_
                  refine xl_skip rfl rfl rfl ?_
                  refine xl_skip rfl rfl rfl ?_
                  refine xl_skip rfl rfl rfl ?_
                  refine xl_skip rfl rfl rfl ?_
                  refine xl_skip rfl rfl rfl ?_
                  refine xl_skip rfl rfl rfl ?_
                  refine xl_skip rfl rfl rfl ?_
                  refine xl_skip rfl rfl rfl ?_
                  refine xl_skip rfl rfl rfl ?_
                  refine xl_skip rfl rfl rfl ?_
                  refine xl_skip rfl rfl rfl ?_
                  refine xl_skip rfl rfl rfl ?_
                  refine xl_skip rfl rfl rfl ?_
                  refine xl_pure rfl rfl rfl (pv_pick_f (v := .bool _) rfl rfl rfl) ?_
                  refine xl_nil ?_
                  refine xthen_normal ?_
                  refine xc_cond_f rfl ?_
                  refine xc_skip ?_
                  refine xthen_normal ?_
                  refine xc_seq ?_
                  refine xc_seq ?_
                  refine xc_region ?_
                  refine xl_light rfl rfl rfl (lv_load (v := .agg _) rfl rfl (by first | exact ld_blk_a hr rfl rfl | exact ld_blk hr rfl | exact hr | exact ld_blk_a hw rfl rfl | exact ld_blk hw rfl | exact hw | exact ld_blk_a hq rfl rfl | exact ld_blk hq rfl | exact hq | exact cellAt_ext (hsa i (by omega)).2 hX | exact cellAt_ext (hsa i (by omega)).1 hX)) ?_
                  refine xl_heavy rfl rfl rfl (hv_call (g := 10) rfl rfl (c10 _ _ _ (.inl hxn) (by omega)) rfl) ?_
                  rintro v20_1 H20_1 ⟨e20_1, rfl, hg20_1, hE20_1⟩
                  have hX := hX.trans hE20_1
                  have hr := hr.ext hE20_1
                  have hw := hw.ext hE20_1
                  try have hq := hq.ext hE20_1
                  obtain rfl : e20_1 = 0 := by
                    rcases hg20_1 with ⟨_, h⟩ | ⟨h, _⟩
                    · exact h
                    · exact absurd hgx h
                  refine xl_ndec rfl rfl rfl (pv_neq rfl rfl rfl) (fun h20_2 => ?_) (fun h20_2 => ?_)
                  · skip
                    refine xl_pure rfl rfl rfl (pv_move (v := .bool _) rfl rfl) ?_
                    refine xl_light rfl rfl rfl (lv_load (v := .agg _) rfl rfl (by first | exact ld_blk_a hr rfl rfl | exact ld_blk hr rfl | exact hr | exact ld_blk_a hw rfl rfl | exact ld_blk hw rfl | exact hw | exact ld_blk_a hq rfl rfl | exact ld_blk hq rfl | exact hq | exact cellAt_ext (hsa i (by omega)).2 hX | exact cellAt_ext (hsa i (by omega)).1 hX)) ?_
                    refine xl_heavy rfl rfl rfl (hv_call (g := 11) rfl rfl (c11 j a c) rfl) ?_
                    rintro v20_5 H20_5 ⟨r20_5, rfl, hb20_5, hE20_5⟩
                    have hX := hX.trans hE20_5
                    have hr := hr.ext hE20_5
                    have hw := hw.ext hE20_5
                    try have hq := hq.ext hE20_5
                    obtain rfl : r20_5 = true := hb20_5.2 (by unfold Step at hstep; omega)
                    refine xl_pure rfl rfl rfl (pv_not rfl rfl) ?_
                    refine xl_pure rfl rfl rfl (pv_pick_f (v := .bool _) rfl rfl rfl) ?_
                    refine xl_pure rfl rfl rfl (pv_move (v := .bool _) rfl rfl) ?_
                    refine xl_pure rfl rfl rfl (pv_fieldAddr rfl rfl) ?_
                    refine xl_light rfl rfl rfl (lv_load (v := .int _ _) rfl rfl (by first | exact ld_blk_a hr rfl rfl | exact ld_blk hr rfl | exact hr | exact ld_blk_a hw rfl rfl | exact ld_blk hw rfl | exact hw | exact ld_blk_a hq rfl rfl | exact ld_blk hq rfl | exact hq | exact cellAt_ext (hsa i (by omega)).2 hX | exact cellAt_ext (hsa i (by omega)).1 hX)) ?_
                    refine xl_dec rfl rfl rfl (pv_eql rfl rfl rfl) (fun h20_11 => ?_) (fun h20_11 => ?_)
                    · skip
                      refine xl_pure rfl rfl rfl (pv_move (v := .bool _) rfl rfl) ?_
                      refine xl_pure rfl rfl rfl (pv_fieldAddr rfl rfl) ?_
                      refine xl_light rfl rfl rfl (lv_load (v := .int _ _) rfl rfl (by first | exact ld_blk_a hr rfl rfl | exact ld_blk hr rfl | exact hr | exact ld_blk_a hw rfl rfl | exact ld_blk hw rfl | exact hw | exact ld_blk_a hq rfl rfl | exact ld_blk hq rfl | exact hq | exact cellAt_ext (hsa i (by omega)).2 hX | exact cellAt_ext (hsa i (by omega)).1 hX)) ?_
                      refine xl_pure rfl rfl rfl (pv_fieldAddr rfl rfl) ?_
                      refine xl_light rfl rfl rfl (lv_load (v := .int _ _) rfl rfl (by first | exact ld_blk_a hr rfl rfl | exact ld_blk hr rfl | exact hr | exact ld_blk_a hw rfl rfl | exact ld_blk hw rfl | exact hw | exact ld_blk_a hq rfl rfl | exact ld_blk hq rfl | exact hq | exact cellAt_ext (hsa i (by omega)).2 hX | exact cellAt_ext (hsa i (by omega)).1 hX)) ?_
                      refine xl_pure rfl rfl rfl (pv_move (v := .int _ _) rfl rfl) ?_
                      refine xl_pure rfl rfl rfl (pv_sub rfl rfl rfl (fit_i64 (by omega))) ?_
                      refine xl_ndec rfl rfl rfl (pv_neq rfl rfl rfl) (fun h20_19 => ?_) (fun h20_19 => ?_)
                      · skip
                        refine xl_pure rfl rfl rfl (pv_pick_t (v := .bool _) rfl rfl rfl) ?_
                        refine xl_pure rfl rfl rfl (pv_pick_f (v := .bool _) rfl rfl rfl) ?_
                        refine xl_nil ?_
                        refine xthen_normal ?_
                        refine xc_cond_f rfl ?_
                        refine xc_skip ?_
                        refine xthen_normal ?_
                        refine xc_region ?_
                        refine xl_light rfl rfl rfl (lv_load (v := .agg _) rfl rfl (by first | exact ld_blk_a hr rfl rfl | exact ld_blk hr rfl | exact hr | exact ld_blk_a hw rfl rfl | exact ld_blk hw rfl | exact hw | exact ld_blk_a hq rfl rfl | exact ld_blk hq rfl | exact hq | exact cellAt_ext (hsa i (by omega)).2 hX | exact cellAt_ext (hsa i (by omega)).1 hX)) ?_
                        refine xl_store rfl rfl (hv_storeA (vs := [.int _ _, .int _ _, .int _ _, .int _ _, .int _ _, .int _ _, .int _ _, .int _ _, .int _ _, .int _ _, .int _ _, .slice _ _ _, .int _ _, .int _ _, .int _ _, .int _ _]) rfl rfl rfl (by first | exact ld_blk_a hr rfl rfl | exact ld_blk hr rfl | exact hr | exact ld_blk_a hw rfl rfl | exact ld_blk hw rfl | exact hw | exact ld_blk_a hq rfl rfl | exact ld_blk hq rfl | exact hq | exact cellAt_ext (hsa i (by omega)).2 hX | exact cellAt_ext (hsa i (by omega)).1 hX) rfl (by rfl) rfl) ?_
                        rintro v22_1 H22_1 ⟨hU22_1, hZ22_1⟩
                        have hX := hX.ofBut hU22_1.but hge
                        have hr := hU22_1.blk
                        refine xl_nil ?_
                        refine xblock_normal ?_
                        refine xthen_normal ?_
                        refine xc_region ?_
                        refine xl_pure rfl rfl rfl (pv_move (v := .int _ _) rfl rfl) ?_
                        refine xl_pure rfl rfl rfl (pv_add rfl rfl rfl (fit_i64 (by omega))) ?_
                        refine xl_pure rfl rfl rfl (pv_assign (v := .int _ _) rfl rfl) ?_
                        refine xl_nil ?_
                        refine xthen_normal ?_
                        first
                          | exact ⟨(j, a, c, _, ran, i + 1), ⟨rfl, rfl, rfl, rfl, rfl, trivial⟩, ⟨(by (try simp only); omega), hinv, (by (try simp only); omega), (by (try simp only); omega), hr, hX⟩, (by (try simp only); omega)⟩
                          | exact ⟨(_, _, _, _, ran2, i + 1), ⟨rfl, rfl, rfl, rfl, rfl, trivial⟩, ⟨(by (try simp only); omega), ⟨hgx, hxn, (by (try simp only); omega), (by unfold Step at hstep; (try simp only); omega), (by unfold Step at hstep; (try simp only); omega), (by unfold Step at hstep; (try simp only); intro h; omega)⟩, (by (try simp only); omega), (by (try simp only); omega), hr, hX⟩, (by (try simp only); omega)⟩
                      · exact absurd (by unfold Step at hstep; omega) h20_19
                    · skip
                      refine xl_pure rfl rfl rfl (pv_move (v := .bool _) rfl rfl) ?_
                      refine xl_skip rfl rfl rfl ?_
                      refine xl_skip rfl rfl rfl ?_
                      refine xl_skip rfl rfl rfl ?_
                      refine xl_skip rfl rfl rfl ?_
                      refine xl_skip rfl rfl rfl ?_
                      refine xl_skip rfl rfl rfl ?_
                      refine xl_skip rfl rfl rfl ?_
                      refine xl_pure rfl rfl rfl (pv_pick_f (v := .bool _) rfl rfl rfl) ?_
                      refine xl_pure rfl rfl rfl (pv_pick_f (v := .bool _) rfl rfl rfl) ?_
                      refine xl_nil ?_
                      refine xthen_normal ?_
                      refine xc_cond_f rfl ?_
                      refine xc_skip ?_
                      refine xthen_normal ?_
                      refine xc_region ?_
                      refine xl_light rfl rfl rfl (lv_load (v := .agg _) rfl rfl (by first | exact ld_blk_a hr rfl rfl | exact ld_blk hr rfl | exact hr | exact ld_blk_a hw rfl rfl | exact ld_blk hw rfl | exact hw | exact ld_blk_a hq rfl rfl | exact ld_blk hq rfl | exact hq | exact cellAt_ext (hsa i (by omega)).2 hX | exact cellAt_ext (hsa i (by omega)).1 hX)) ?_
                      refine xl_store rfl rfl (hv_storeA (vs := [.int _ _, .int _ _, .int _ _, .int _ _, .int _ _, .int _ _, .int _ _, .int _ _, .int _ _, .int _ _, .int _ _, .slice _ _ _, .int _ _, .int _ _, .int _ _, .int _ _]) rfl rfl rfl (by first | exact ld_blk_a hr rfl rfl | exact ld_blk hr rfl | exact hr | exact ld_blk_a hw rfl rfl | exact ld_blk hw rfl | exact hw | exact ld_blk_a hq rfl rfl | exact ld_blk hq rfl | exact hq | exact cellAt_ext (hsa i (by omega)).2 hX | exact cellAt_ext (hsa i (by omega)).1 hX) rfl (by rfl) rfl) ?_
                      rintro v22_1 H22_1 ⟨hU22_1, hZ22_1⟩
                      have hX := hX.ofBut hU22_1.but hge
                      have hr := hU22_1.blk
                      refine xl_nil ?_
                      refine xblock_normal ?_
                      refine xthen_normal ?_
                      refine xc_region ?_
                      refine xl_pure rfl rfl rfl (pv_move (v := .int _ _) rfl rfl) ?_
                      refine xl_pure rfl rfl rfl (pv_add rfl rfl rfl (fit_i64 (by omega))) ?_
                      refine xl_pure rfl rfl rfl (pv_assign (v := .int _ _) rfl rfl) ?_
                      refine xl_nil ?_
                      refine xthen_normal ?_
                      first
                        | exact ⟨(j, a, c, _, ran, i + 1), ⟨rfl, rfl, rfl, rfl, rfl, trivial⟩, ⟨(by (try simp only); omega), hinv, (by (try simp only); omega), (by (try simp only); omega), hr, hX⟩, (by (try simp only); omega)⟩
                        | exact ⟨(_, _, _, _, ran2, i + 1), ⟨rfl, rfl, rfl, rfl, rfl, trivial⟩, ⟨(by (try simp only); omega), ⟨hgx, hxn, (by (try simp only); omega), (by unfold Step at hstep; (try simp only); omega), (by unfold Step at hstep; (try simp only); omega), (by unfold Step at hstep; (try simp only); intro h; omega)⟩, (by (try simp only); omega), (by (try simp only); omega), hr, hX⟩, (by (try simp only); omega)⟩
                  · exact absurd (by decide) h20_2
            · exact absurd (by decide) h13_1
        · skip
          refine xph_val rfl rfl rfl rfl (hv_alloc rfl rfl) (pk (by kernel_rfl) (pk (by kernel_rfl) pn)) ?_
          rintro v12_11 H12_11 ⟨b12_11, rfl, hN12_11⟩
          have hgq := Nat.le_trans hX.size hN12_11.ge
          have hX := hX.trans hN12_11.ext
          have hnrq := hr.fresh hN12_11.ge
          have hnwq := hw.fresh hN12_11.ge
          have hr := hr.ext hN12_11.ext
          have hw := hw.ext hN12_11.ext
          have hq := hN12_11.blk
          refine ⟨(okc (lv_load (v := .int _ _) rfl rfl (by first | exact ld_blk_a hr rfl rfl | exact ld_blk hr rfl | exact hr | exact ld_blk_a hw rfl rfl | exact ld_blk hw rfl | exact hw | exact ld_blk_a hq rfl rfl | exact ld_blk hq rfl | exact hq | exact cellAt_ext (hsa i (by omega)).2 hX | exact cellAt_ext (hsa i (by omega)).1 hX)) (okc (lv_load (v := .agg _) rfl rfl (by first | exact ld_blk_a hr rfl rfl | exact ld_blk hr rfl | exact hr | exact ld_blk_a hw rfl rfl | exact ld_blk hw rfl | exact hw | exact ld_blk_a hq rfl rfl | exact ld_blk hq rfl | exact hq | exact cellAt_ext (hsa i (by omega)).2 hX | exact cellAt_ext (hsa i (by omega)).1 hX)) okn)), ?_⟩
          refine xp_heavy (i := 7) (by kernel_rfl) ?_
          refine xph_val rfl rfl rfl rfl (hv_call (g := 8) rfl rfl (c8 j a c (gx l i) _ (.inl hinv.needs) (by have := hinv.needs; omega)) rfl) (pd (by kernel_rfl) (pd (by kernel_rfl) pn)) ?_
          rintro v12_7 H12_7 ⟨e12_7, j12_7, a12_7, c12_7, rfl, hd12_7, hk12_7, hE12_7⟩
          have hX := hX.trans hE12_7
          have hr := hr.ext hE12_7
          have hw := hw.ext hE12_7
          try have hq := hq.ext hE12_7
          refine ⟨okn, ?_⟩
          rcases do_cases (what := gx l i) hinv.good hnow with hdd | ⟨x, hdd, hgx, htx, hnx, hstep⟩
          · skip
            have hdd := hd12_7.trans hdd
            simp only [Prod.mk.injEq] at hdd
            obtain ⟨rfl, rfl⟩ := hdd
            refine xp_pure (i := 8) rfl (by kernel_rfl) (by kernel_rfl) rfl rfl rfl (pv_move (v := .tuple _) rfl rfl) ?_
            refine xp_pure (i := 9) rfl (by kernel_rfl) (by kernel_rfl) rfl rfl rfl (pv_extract (v := .agg _) rfl rfl rfl) ?_
            refine xp_pure (i := 10) rfl (by kernel_rfl) (by kernel_rfl) rfl rfl rfl (pv_extract (v := .int _ _) rfl rfl rfl) ?_
            refine xp_heavy (i := 12) (by kernel_rfl) ?_
            refine xph_store rfl rfl rfl (hv_storeA (vs := [.int _ _, .int _ _, .int _ _, .int _ _, .int _ _, .int _ _, .int _ _, .int _ _, .int _ _, .int _ _, .int _ _, .slice _ _ _, .int _ _, .int _ _, .int _ _, .int _ _]) rfl rfl rfl (by first | exact ld_blk_a hr rfl rfl | exact ld_blk hr rfl | exact hr | exact ld_blk_a hw rfl rfl | exact ld_blk hw rfl | exact hw | exact ld_blk_a hq rfl rfl | exact ld_blk hq rfl | exact hq | exact cellAt_ext (hsa i (by omega)).2 hX | exact cellAt_ext (hsa i (by omega)).1 hX) rfl (by rfl) rfl) pn ?_
            rintro v12_12 H12_12 ⟨hU12_12, hZ12_12⟩
            have hX := hX.ofBut hU12_12.but hgq
            have hr := hr.but hU12_12.but hnrq
            have hw := hw.but hU12_12.but hnwq
            have hq := hU12_12.blk
            refine ⟨okn, ?_⟩
            refine xp_pure (i := 13) rfl (by kernel_rfl) (by kernel_rfl) rfl rfl rfl (pv_assign (v := .int _ _) rfl rfl) ?_
            refine xp_done (by kernel_rfl) ?_
            refine xthen_normal ?_
            refine xc_seq ?_
            refine xc_seq ?_
            refine xc_region ?_
            refine xl_pure rfl rfl rfl (pv_move (v := .int _ _) rfl rfl) ?_
            refine xl_ndec rfl rfl rfl (pv_neq rfl rfl rfl) (fun h13_1 => ?_) (fun h13_1 => ?_)
            · exact absurd h13_1 (by decide)
            · skip
              refine xl_nil ?_
              refine xthen_normal ?_
              refine xc_cond_t rfl ?_
              refine xc_seq ?_
              refine xc_seq ?_
              refine xc_region ?_
              refine xl_light rfl rfl rfl (lv_load (v := .agg _) rfl rfl (by first | exact ld_blk_a hr rfl rfl | exact ld_blk hr rfl | exact hr | exact ld_blk_a hw rfl rfl | exact ld_blk hw rfl | exact hw | exact ld_blk_a hq rfl rfl | exact ld_blk hq rfl | exact hq | exact cellAt_ext (hsa i (by omega)).2 hX | exact cellAt_ext (hsa i (by omega)).1 hX)) ?_
              refine xl_pure rfl rfl rfl (pv_build_s (cs := [.int _ _, .int _ _, .int _ _, .int _ _, .int _ _, .int _ _, .int _ _, .int _ _, .int _ _, .int _ _, .int _ _, .slice _ _ _, .int _ _, .int _ _, .int _ _, .int _ _]) rfl rfl rfl) ?_
              refine xl_heavy rfl rfl rfl (hv_call (g := 9) rfl rfl (c9 J0 J0 _ _ _ _ (.inl rfl) (.inl rfl) (by decide)) rfl) ?_
              rintro v14_2 H14_2 ⟨r14_2, rfl, hb14_2, hE14_2⟩
              have hX := hX.trans hE14_2
              have hr := hr.ext hE14_2
              obtain rfl : r14_2 = true := hb14_2.2 rfl
              refine xl_pure rfl rfl rfl (pv_not rfl rfl) ?_
              refine xl_nil ?_
              refine xthen_normal ?_
              refine xc_cond_f rfl ?_
              refine xc_skip ?_
              refine xthen_normal ?_
              refine xc_exit ?_
              refine xthen_exit ?_
              refine xblock_same ?_
              refine xthen_normal ?_
              refine xc_region ?_
              refine xl_pure rfl rfl rfl (pv_move (v := .int _ _) rfl rfl) ?_
              refine xl_pure rfl rfl rfl (pv_add rfl rfl rfl (fit_i64 (by omega))) ?_
              refine xl_pure rfl rfl rfl (pv_assign (v := .int _ _) rfl rfl) ?_
              refine xl_nil ?_
              refine xthen_normal ?_
              first
                | exact ⟨(j, a, c, _, ran, i + 1), ⟨rfl, rfl, rfl, rfl, rfl, trivial⟩, ⟨(by (try simp only); omega), hinv, (by (try simp only); omega), (by (try simp only); omega), hr, hX⟩, (by (try simp only); omega)⟩
                | exact ⟨(_, _, _, _, ran2, i + 1), ⟨rfl, rfl, rfl, rfl, rfl, trivial⟩, ⟨(by (try simp only); omega), ⟨hgx, hxn, (by (try simp only); omega), (by unfold Step at hstep; (try simp only); omega), (by unfold Step at hstep; (try simp only); omega), (by unfold Step at hstep; (try simp only); intro h; omega)⟩, (by (try simp only); omega), (by (try simp only); omega), hr, hX⟩, (by (try simp only); omega)⟩
          · skip
            have hdd := hd12_7.trans hdd
            simp only [Prod.mk.injEq] at hdd
            obtain ⟨rfl, rfl⟩ := hdd
            have hxn : j12_7.needs.length = 0 := by rw [hnx]; exact hinv.needs
            refine xp_pure (i := 8) rfl (by kernel_rfl) (by kernel_rfl) rfl rfl rfl (pv_move (v := .tuple _) rfl rfl) ?_
            refine xp_pure (i := 9) rfl (by kernel_rfl) (by kernel_rfl) rfl rfl rfl (pv_extract (v := .agg _) rfl rfl rfl) ?_
            refine xp_pure (i := 10) rfl (by kernel_rfl) (by kernel_rfl) rfl rfl rfl (pv_extract (v := .int _ _) rfl rfl rfl) ?_
            refine xp_heavy (i := 12) (by kernel_rfl) ?_
            refine xph_store rfl rfl rfl (hv_storeA (vs := [.int _ _, .int _ _, .int _ _, .int _ _, .int _ _, .int _ _, .int _ _, .int _ _, .int _ _, .int _ _, .int _ _, .slice _ _ _, .int _ _, .int _ _, .int _ _, .int _ _]) rfl rfl rfl (by first | exact ld_blk_a hr rfl rfl | exact ld_blk hr rfl | exact hr | exact ld_blk_a hw rfl rfl | exact ld_blk hw rfl | exact hw | exact ld_blk_a hq rfl rfl | exact ld_blk hq rfl | exact hq | exact cellAt_ext (hsa i (by omega)).2 hX | exact cellAt_ext (hsa i (by omega)).1 hX) rfl (by rfl) rfl) pn ?_
            rintro v12_12 H12_12 ⟨hU12_12, hZ12_12⟩
            have hX := hX.ofBut hU12_12.but hgq
            have hr := hr.but hU12_12.but hnrq
            have hw := hw.but hU12_12.but hnwq
            have hq := hU12_12.blk
            refine ⟨okn, ?_⟩
            refine xp_pure (i := 13) rfl (by kernel_rfl) (by kernel_rfl) rfl rfl rfl (pv_assign (v := .int _ _) rfl rfl) ?_
            refine xp_done (by kernel_rfl) ?_
            refine xthen_normal ?_
            refine xc_seq ?_
            refine xc_seq ?_
            refine xc_region ?_
            refine xl_pure rfl rfl rfl (pv_move (v := .int _ _) rfl rfl) ?_
            refine xl_ndec rfl rfl rfl (pv_neq rfl rfl rfl) (fun h13_1 => ?_) (fun h13_1 => ?_)
            · skip
              refine xl_nil ?_
              refine xthen_normal ?_
              refine xc_cond_f rfl ?_
              refine xc_skip ?_
              refine xthen_normal ?_
              refine xc_cut (τ := Int) (fun t => [(1, .slice (some ⟨ba, off, none⟩) l.length cl), (5, .pointer (some ⟨b3_1, 0, none⟩)), (6, .int .i64 (now + gq l i % 65536)), (7, .int .i64 t), (8, .int .i64 (i : Nat)), (9, .pointer (some ⟨b11_1, 0, none⟩)), (10, .pointer (some ⟨b12_11, 0, none⟩))]) (fun t H' => (j.st = 2 ∧ j12_7.st = 3 ∧ t = ran + (now + gq l i % 65536) - j.beg ∨ ¬ (j.st = 2 ∧ j12_7.st = 3) ∧ t = ran) ∧ H12_12 = H') ?_ ?_
              · skip
                refine xc_seq ?_
                refine xc_region ?_
                refine xl_pure rfl rfl rfl (pv_fieldAddr rfl rfl) ?_
                refine xl_light rfl rfl rfl (lv_load (v := .int _ _) rfl rfl (by first | exact ld_blk_a hr rfl rfl | exact ld_blk hr rfl | exact hr | exact ld_blk_a hw rfl rfl | exact ld_blk hw rfl | exact hw | exact ld_blk_a hq rfl rfl | exact ld_blk hq rfl | exact hq | exact cellAt_ext (hsa i (by omega)).2 hX | exact cellAt_ext (hsa i (by omega)).1 hX)) ?_
                refine xl_dec rfl rfl rfl (pv_eql rfl rfl rfl) (fun h16_2 => ?_) (fun h16_2 => ?_)
                · skip
                  refine xl_pure rfl rfl rfl (pv_move (v := .bool _) rfl rfl) ?_
                  refine xl_pure rfl rfl rfl (pv_fieldAddr rfl rfl) ?_
                  refine xl_light rfl rfl rfl (lv_load (v := .int _ _) rfl rfl (by first | exact ld_blk_a hr rfl rfl | exact ld_blk hr rfl | exact hr | exact ld_blk_a hw rfl rfl | exact ld_blk hw rfl | exact hw | exact ld_blk_a hq rfl rfl | exact ld_blk hq rfl | exact hq | exact cellAt_ext (hsa i (by omega)).2 hX | exact cellAt_ext (hsa i (by omega)).1 hX)) ?_
                  refine xl_dec rfl rfl rfl (pv_eql rfl rfl rfl) (fun h16_6 => ?_) (fun h16_6 => ?_)
                  · skip
                    refine xl_pure rfl rfl rfl (pv_pick_t (v := .bool _) rfl rfl rfl) ?_
                    refine xl_nil ?_
                    refine xthen_normal ?_
                    refine xc_cond_t rfl ?_
                    refine xc_region ?_
                    refine xl_pure rfl rfl rfl (pv_move (v := .int _ _) rfl rfl) ?_
                    refine xl_pure rfl rfl rfl (pv_move (v := .int _ _) rfl rfl) ?_
                    refine xl_pure rfl rfl rfl (pv_add rfl rfl rfl (fit_i64 (by omega))) ?_
                    refine xl_pure rfl rfl rfl (pv_fieldAddr rfl rfl) ?_
                    refine xl_light rfl rfl rfl (lv_load (v := .int _ _) rfl rfl (by first | exact ld_blk_a hr rfl rfl | exact ld_blk hr rfl | exact hr | exact ld_blk_a hw rfl rfl | exact ld_blk hw rfl | exact hw | exact ld_blk_a hq rfl rfl | exact ld_blk hq rfl | exact hq | exact cellAt_ext (hsa i (by omega)).2 hX | exact cellAt_ext (hsa i (by omega)).1 hX)) ?_
                    refine xl_pure rfl rfl rfl (pv_sub rfl rfl rfl (fit_i64 (by omega))) ?_
                    refine xl_pure rfl rfl rfl (pv_assign (v := .int _ _) rfl rfl) ?_
                    refine xl_nil ?_
                    refine xthen_normal ?_
                    first
                      | exact ⟨_, ⟨rfl, rfl, rfl, rfl, rfl, rfl, rfl, trivial⟩, .inl ⟨h16_2, h16_6, rfl⟩, rfl⟩
                      | exact ⟨_, ⟨rfl, rfl, rfl, rfl, rfl, rfl, rfl, trivial⟩, .inr ⟨by omega, rfl⟩, rfl⟩
                  · skip
                    refine xl_pure rfl rfl rfl (pv_pick_t (v := .bool _) rfl rfl rfl) ?_
                    refine xl_nil ?_
                    refine xthen_normal ?_
                    refine xc_cond_f rfl ?_
                    refine xc_skip ?_
                    refine xthen_normal ?_
                    first
                      | exact ⟨_, ⟨rfl, rfl, rfl, rfl, rfl, rfl, rfl, trivial⟩, .inl ⟨h16_2, h16_6, rfl⟩, rfl⟩
                      | exact ⟨_, ⟨rfl, rfl, rfl, rfl, rfl, rfl, rfl, trivial⟩, .inr ⟨by omega, rfl⟩, rfl⟩
                · skip
                  refine xl_pure rfl rfl rfl (pv_move (v := .bool _) rfl rfl) ?_
                  refine xl_skip rfl rfl rfl ?_
                  refine xl_skip rfl rfl rfl ?_
                  refine xl_skip rfl rfl rfl ?_
                  refine xl_pure rfl rfl rfl (pv_pick_f (v := .bool _) rfl rfl rfl) ?_
                  refine xl_nil ?_
                  refine xthen_normal ?_
                  refine xc_cond_f rfl ?_
                  refine xc_skip ?_
                  refine xthen_normal ?_
                  first
                    | exact ⟨_, ⟨rfl, rfl, rfl, rfl, rfl, rfl, rfl, trivial⟩, .inl ⟨h16_2, h16_6, rfl⟩, rfl⟩
                    | exact ⟨_, ⟨rfl, rfl, rfl, rfl, rfl, rfl, rfl, trivial⟩, .inr ⟨by omega, rfl⟩, rfl⟩
              · intro σ
                rintro ran2 Hm ⟨hrn, rfl⟩
                show XC _ _ _ (upds σ [(1, .slice (some ⟨ba, off, none⟩) l.length cl), (5, .pointer (some ⟨b3_1, 0, none⟩)), (6, .int .i64 (now + gq l i % 65536)), (7, .int .i64 ran2), (8, .int .i64 (i : Nat)), (9, .pointer (some ⟨b11_1, 0, none⟩)), (10, .pointer (some ⟨b12_11, 0, none⟩))]) _
                refine xc_seq ?_
                refine xc_seq ?_
                refine xc_region ?_
                refine xl_pure rfl rfl rfl (pv_fieldAddr rfl rfl) ?_
                refine xl_light rfl rfl rfl (lv_load (v := .int _ _) rfl rfl (by first | exact ld_blk_a hr rfl rfl | exact ld_blk hr rfl | exact hr | exact ld_blk_a hw rfl rfl | exact ld_blk hw rfl | exact hw | exact ld_blk_a hq rfl rfl | exact ld_blk hq rfl | exact hq | exact cellAt_ext (hsa i (by omega)).2 hX | exact cellAt_ext (hsa i (by omega)).1 hX)) ?_
                refine xl_dec rfl rfl rfl (pv_eql rfl rfl rfl) (fun h18_2 => ?_) (fun h18_2 => ?_)
                · skip
                  refine xl_pure rfl rfl rfl (pv_move (v := .bool _) rfl rfl) ?_
                  refine xl_pure rfl rfl rfl (pv_fieldAddr rfl rfl) ?_
                  refine xl_light rfl rfl rfl (lv_load (v := .int _ _) rfl rfl (by first | exact ld_blk_a hr rfl rfl | exact ld_blk hr rfl | exact hr | exact ld_blk_a hw rfl rfl | exact ld_blk hw rfl | exact hw | exact ld_blk_a hq rfl rfl | exact ld_blk hq rfl | exact hq | exact cellAt_ext (hsa i (by omega)).2 hX | exact cellAt_ext (hsa i (by omega)).1 hX)) ?_
                  refine xl_dec rfl rfl rfl (pv_eql rfl rfl rfl) (fun h18_6 => ?_) (fun h18_6 => ?_)
                  · skip
                    refine xl_pure rfl rfl rfl (pv_pick_t (v := .bool _) rfl rfl rfl) ?_
                    refine xl_pure rfl rfl rfl (pv_move (v := .bool _) rfl rfl) ?_
                    refine xl_pure rfl rfl rfl (pv_move (v := .int _ _) rfl rfl) ?_
                    refine xl_pure rfl rfl rfl (pv_fieldAddr rfl rfl) ?_
                    refine xl_light rfl rfl rfl (lv_load (v := .int _ _) rfl rfl (by first | exact ld_blk_a hr rfl rfl | exact ld_blk hr rfl | exact hr | exact ld_blk_a hw rfl rfl | exact ld_blk hw rfl | exact hw | exact ld_blk_a hq rfl rfl | exact ld_blk hq rfl | exact hq | exact cellAt_ext (hsa i (by omega)).2 hX | exact cellAt_ext (hsa i (by omega)).1 hX)) ?_
                    refine xl_pure rfl rfl rfl (pv_add rfl rfl rfl (fit_i64 (by omega))) ?_
                    refine xl_pure rfl rfl rfl (pv_fieldAddr rfl rfl) ?_
                    refine xl_light rfl rfl rfl (lv_load (v := .int _ _) rfl rfl (by first | exact ld_blk_a hr rfl rfl | exact ld_blk hr rfl | exact hr | exact ld_blk_a hw rfl rfl | exact ld_blk hw rfl | exact hw | exact ld_blk_a hq rfl rfl | exact ld_blk hq rfl | exact hq | exact cellAt_ext (hsa i (by omega)).2 hX | exact cellAt_ext (hsa i (by omega)).1 hX)) ?_
                    refine xl_pure rfl rfl rfl (pv_sub rfl rfl rfl (fit_i64 (by omega))) ?_
                    refine xl_pure rfl rfl rfl (pv_fieldAddr rfl rfl) ?_
                    refine xl_light rfl rfl rfl (lv_load (v := .int _ _) rfl rfl (by first | exact ld_blk_a hr rfl rfl | exact ld_blk hr rfl | exact hr | exact ld_blk_a hw rfl rfl | exact ld_blk hw rfl | exact hw | exact ld_blk_a hq rfl rfl | exact ld_blk hq rfl | exact hq | exact cellAt_ext (hsa i (by omega)).2 hX | exact cellAt_ext (hsa i (by omega)).1 hX)) ?_
                    refine xl_ndec rfl rfl rfl (pv_neq rfl rfl rfl) (fun h18_18 => ?_) (fun h18_18 => ?_)
                    · skip
                      refine xl_pure rfl rfl rfl (pv_move (v := .bool _) rfl rfl) ?_
                      refine xl_pure rfl rfl rfl (pv_move (v := .int _ _) rfl rfl) ?_
                      refine xl_pure rfl rfl rfl (pv_fieldAddr rfl rfl) ?_
                      refine xl_light rfl rfl rfl (lv_load (v := .int _ _) rfl rfl (by first | exact ld_blk_a hr rfl rfl | exact ld_blk hr rfl | exact hr | exact ld_blk_a hw rfl rfl | exact ld_blk hw rfl | exact hw | exact ld_blk_a hq rfl rfl | exact ld_blk hq rfl | exact hq | exact cellAt_ext (hsa i (by omega)).2 hX | exact cellAt_ext (hsa i (by omega)).1 hX)) ?_
                      refine xl_dec rfl rfl rfl (pv_lss rfl rfl rfl) (fun h18_23 => ?_) (fun h18_23 => ?_)
                      · exact absurd h18_23 (by unfold Step at hstep; omega)
                      · skip
                        refine xl_pure rfl rfl rfl (pv_pick_f (v := .bool _) rfl rfl rfl) ?_
                        refine xl_pure rfl rfl rfl (pv_pick_t (v := .bool _) rfl rfl rfl) ?_
                        refine xl_nil ?_
                        refine xthen_normal ?_
                        refine xc_cond_f rfl ?_
                        refine xc_skip ?_
                        refine xthen_normal ?_
                        refine xc_seq ?_
                        refine xc_seq ?_
                        refine xc_region ?_
                        refine xl_light rfl rfl rfl (lv_load (v := .agg _) rfl rfl (by first | exact ld_blk_a hr rfl rfl | exact ld_blk hr rfl | exact hr | exact ld_blk_a hw rfl rfl | exact ld_blk hw rfl | exact hw | exact ld_blk_a hq rfl rfl | exact ld_blk hq rfl | exact hq | exact cellAt_ext (hsa i (by omega)).2 hX | exact cellAt_ext (hsa i (by omega)).1 hX)) ?_
                        refine xl_heavy rfl rfl rfl (hv_call (g := 10) rfl rfl (c10 _ _ _ (.inl hxn) (by omega)) rfl) ?_
                        rintro v20_1 H20_1 ⟨e20_1, rfl, hg20_1, hE20_1⟩
                        have hX := hX.trans hE20_1
                        have hr := hr.ext hE20_1
                        have hw := hw.ext hE20_1
                        try have hq := hq.ext hE20_1
                        obtain rfl : e20_1 = 0 := by
                          rcases hg20_1 with ⟨_, h⟩ | ⟨h, _⟩
                          · exact h
                          · exact absurd hgx h
                        refine xl_ndec rfl rfl rfl (pv_neq rfl rfl rfl) (fun h20_2 => ?_) (fun h20_2 => ?_)
                        · skip
                          refine xl_pure rfl rfl rfl (pv_move (v := .bool _) rfl rfl) ?_
                          refine xl_light rfl rfl rfl (lv_load (v := .agg _) rfl rfl (by first | exact ld_blk_a hr rfl rfl | exact ld_blk hr rfl | exact hr | exact ld_blk_a hw rfl rfl | exact ld_blk hw rfl | exact hw | exact ld_blk_a hq rfl rfl | exact ld_blk hq rfl | exact hq | exact cellAt_ext (hsa i (by omega)).2 hX | exact cellAt_ext (hsa i (by omega)).1 hX)) ?_
                          refine xl_heavy rfl rfl rfl (hv_call (g := 11) rfl rfl (c11 j a c) rfl) ?_
                          rintro v20_5 H20_5 ⟨r20_5, rfl, hb20_5, hE20_5⟩
                          have hX := hX.trans hE20_5
                          have hr := hr.ext hE20_5
                          have hw := hw.ext hE20_5
                          try have hq := hq.ext hE20_5
                          obtain rfl : r20_5 = true := hb20_5.2 (by unfold Step at hstep; omega)
                          refine xl_pure rfl rfl rfl (pv_not rfl rfl) ?_
                          refine xl_pure rfl rfl rfl (pv_pick_f (v := .bool _) rfl rfl rfl) ?_
                          refine xl_pure rfl rfl rfl (pv_move (v := .bool _) rfl rfl) ?_
                          refine xl_pure rfl rfl rfl (pv_fieldAddr rfl rfl) ?_
                          refine xl_light rfl rfl rfl (lv_load (v := .int _ _) rfl rfl (by first | exact ld_blk_a hr rfl rfl | exact ld_blk hr rfl | exact hr | exact ld_blk_a hw rfl rfl | exact ld_blk hw rfl | exact hw | exact ld_blk_a hq rfl rfl | exact ld_blk hq rfl | exact hq | exact cellAt_ext (hsa i (by omega)).2 hX | exact cellAt_ext (hsa i (by omega)).1 hX)) ?_
                          refine xl_dec rfl rfl rfl (pv_eql rfl rfl rfl) (fun h20_11 => ?_) (fun h20_11 => ?_)
                          · skip
                            refine xl_pure rfl rfl rfl (pv_move (v := .bool _) rfl rfl) ?_
                            refine xl_pure rfl rfl rfl (pv_fieldAddr rfl rfl) ?_
                            refine xl_light rfl rfl rfl (lv_load (v := .int _ _) rfl rfl (by first | exact ld_blk_a hr rfl rfl | exact ld_blk hr rfl | exact hr | exact ld_blk_a hw rfl rfl | exact ld_blk hw rfl | exact hw | exact ld_blk_a hq rfl rfl | exact ld_blk hq rfl | exact hq | exact cellAt_ext (hsa i (by omega)).2 hX | exact cellAt_ext (hsa i (by omega)).1 hX)) ?_
                            refine xl_pure rfl rfl rfl (pv_fieldAddr rfl rfl) ?_
                            refine xl_light rfl rfl rfl (lv_load (v := .int _ _) rfl rfl (by first | exact ld_blk_a hr rfl rfl | exact ld_blk hr rfl | exact hr | exact ld_blk_a hw rfl rfl | exact ld_blk hw rfl | exact hw | exact ld_blk_a hq rfl rfl | exact ld_blk hq rfl | exact hq | exact cellAt_ext (hsa i (by omega)).2 hX | exact cellAt_ext (hsa i (by omega)).1 hX)) ?_
                            refine xl_pure rfl rfl rfl (pv_move (v := .int _ _) rfl rfl) ?_
                            refine xl_pure rfl rfl rfl (pv_sub rfl rfl rfl (fit_i64 (by omega))) ?_
                            refine xl_ndec rfl rfl rfl (pv_neq rfl rfl rfl) (fun h20_19 => ?_) (fun h20_19 => ?_)
                            · skip
                              refine xl_pure rfl rfl rfl (pv_pick_t (v := .bool _) rfl rfl rfl) ?_
                              refine xl_pure rfl rfl rfl (pv_pick_f (v := .bool _) rfl rfl rfl) ?_
                              refine xl_nil ?_
                              refine xthen_normal ?_
                              refine xc_cond_f rfl ?_
                              refine xc_skip ?_
                              refine xthen_normal ?_
                              refine xc_region ?_
                              refine xl_light rfl rfl rfl (lv_load (v := .agg _) rfl rfl (by first | exact ld_blk_a hr rfl rfl | exact ld_blk hr rfl | exact hr | exact ld_blk_a hw rfl rfl | exact ld_blk hw rfl | exact hw | exact ld_blk_a hq rfl rfl | exact ld_blk hq rfl | exact hq | exact cellAt_ext (hsa i (by omega)).2 hX | exact cellAt_ext (hsa i (by omega)).1 hX)) ?_
                              refine xl_store rfl rfl (hv_storeA (vs := [.int _ _, .int _ _, .int _ _, .int _ _, .int _ _, .int _ _, .int _ _, .int _ _, .int _ _, .int _ _, .int _ _, .slice _ _ _, .int _ _, .int _ _, .int _ _, .int _ _]) rfl rfl rfl (by first | exact ld_blk_a hr rfl rfl | exact ld_blk hr rfl | exact hr | exact ld_blk_a hw rfl rfl | exact ld_blk hw rfl | exact hw | exact ld_blk_a hq rfl rfl | exact ld_blk hq rfl | exact hq | exact cellAt_ext (hsa i (by omega)).2 hX | exact cellAt_ext (hsa i (by omega)).1 hX) rfl (by rfl) rfl) ?_
                              rintro v22_1 H22_1 ⟨hU22_1, hZ22_1⟩
                              have hX := hX.ofBut hU22_1.but hge
                              have hr := hU22_1.blk
                              refine xl_nil ?_
                              refine xblock_normal ?_
                              refine xthen_normal ?_
                              refine xc_region ?_
                              refine xl_pure rfl rfl rfl (pv_move (v := .int _ _) rfl rfl) ?_
                              refine xl_pure rfl rfl rfl (pv_add rfl rfl rfl (fit_i64 (by omega))) ?_
                              refine xl_pure rfl rfl rfl (pv_assign (v := .int _ _) rfl rfl) ?_
                              refine xl_nil ?_
                              refine xthen_normal ?_
                              first
                                | exact ⟨(j, a, c, _, ran, i + 1), ⟨rfl, rfl, rfl, rfl, rfl, trivial⟩, ⟨(by (try simp only); omega), hinv, (by (try simp only); omega), (by (try simp only); omega), hr, hX⟩, (by (try simp only); omega)⟩
                                | exact ⟨(_, _, _, _, ran2, i + 1), ⟨rfl, rfl, rfl, rfl, rfl, trivial⟩, ⟨(by (try simp only); omega), ⟨hgx, hxn, (by (try simp only); omega), (by unfold Step at hstep; (try simp only); omega), (by unfold Step at hstep; (try simp only); omega), (by unfold Step at hstep; (try simp only); intro h; omega)⟩, (by (try simp only); omega), (by (try simp only); omega), hr, hX⟩, (by (try simp only); omega)⟩
                            · exact absurd (by unfold Step at hstep; omega) h20_19
                          · skip
                            refine xl_pure rfl rfl rfl (pv_move (v := .bool _) rfl rfl) ?_
                            refine xl_skip rfl rfl rfl ?_
                            refine xl_skip rfl rfl rfl ?_
                            refine xl_skip rfl rfl rfl ?_
                            refine xl_skip rfl rfl rfl ?_
                            refine xl_skip rfl rfl rfl ?_
                            refine xl_skip rfl rfl rfl ?_
                            refine xl_skip rfl rfl rfl ?_
                            refine xl_pure rfl rfl rfl (pv_pick_f (v := .bool _) rfl rfl rfl) ?_
                            refine xl_pure rfl rfl rfl (pv_pick_f (v := .bool _) rfl rfl rfl) ?_
                            refine xl_nil ?_
                            refine xthen_normal ?_
                            refine xc_cond_f rfl ?_
                            refine xc_skip ?_
                            refine xthen_normal ?_
                            refine xc_region ?_
                            refine xl_light rfl rfl rfl (lv_load (v := .agg _) rfl rfl (by first | exact ld_blk_a hr rfl rfl | exact ld_blk hr rfl | exact hr | exact ld_blk_a hw rfl rfl | exact ld_blk hw rfl | exact hw | exact ld_blk_a hq rfl rfl | exact ld_blk hq rfl | exact hq | exact cellAt_ext (hsa i (by omega)).2 hX | exact cellAt_ext (hsa i (by omega)).1 hX)) ?_
                            refine xl_store rfl rfl (hv_storeA (vs := [.int _ _, .int _ _, .int _ _, .int _ _, .int _ _, .int _ _, .int _ _, .int _ _, .int _ _, .int _ _, .int _ _, .slice _ _ _, .int _ _, .int _ _, .int _ _, .int _ _]) rfl rfl rfl (by first | exact ld_blk_a hr rfl rfl | exact ld_blk hr rfl | exact hr | exact ld_blk_a hw rfl rfl | exact ld_blk hw rfl | exact hw | exact ld_blk_a hq rfl rfl | exact ld_blk hq rfl | exact hq | exact cellAt_ext (hsa i (by omega)).2 hX | exact cellAt_ext (hsa i (by omega)).1 hX) rfl (by rfl) rfl) ?_
                            rintro v22_1 H22_1 ⟨hU22_1, hZ22_1⟩
                            have hX := hX.ofBut hU22_1.but hge
                            have hr := hU22_1.blk
                            refine xl_nil ?_
                            refine xblock_normal ?_
                            refine xthen_normal ?_
                            refine xc_region ?_
                            refine xl_pure rfl rfl rfl (pv_move (v := .int _ _) rfl rfl) ?_
                            refine xl_pure rfl rfl rfl (pv_add rfl rfl rfl (fit_i64 (by omega))) ?_
                            refine xl_pure rfl rfl rfl (pv_assign (v := .int _ _) rfl rfl) ?_
                            refine xl_nil ?_
                            refine xthen_normal ?_
                            first
                              | exact ⟨(j, a, c, _, ran, i + 1), ⟨rfl, rfl, rfl, rfl, rfl, trivial⟩, ⟨(by (try simp only); omega), hinv, (by (try simp only); omega), (by (try simp only); omega), hr, hX⟩, (by (try simp only); omega)⟩
                              | exact ⟨(_, _, _, _, ran2, i + 1), ⟨rfl, rfl, rfl, rfl, rfl, trivial⟩, ⟨(by (try simp only); omega), ⟨hgx, hxn, (by (try simp only); omega), (by unfold Step at hstep; (try simp only); omega), (by unfold Step at hstep; (try simp only); omega), (by unfold Step at hstep; (try simp only); intro h; omega)⟩, (by (try simp only); omega), (by (try simp only); omega), hr, hX⟩, (by (try simp only); omega)⟩
                        · exact absurd (by decide) h20_2
                    · exact absurd (by omega) h18_18
                  · skip
                    refine xl_pure rfl rfl rfl (pv_pick_t (v := .bool _) rfl rfl rfl) ?_
                    refine xl_pure rfl rfl rfl (pv_move (v := .bool _) rfl rfl) ?_
                    refine xl_skip rfl rfl rfl ?_
                    refine xl_skip rfl rfl rfl ?_
                    refine xl_skip rfl rfl rfl ?_
                    refine xl_skip rfl rfl rfl ?_
                    refine xl_skip rfl rfl rfl ?_
                    refine xl_skip rfl rfl rfl ?_
                    refine xl_skip rfl rfl rfl ?_
                    refine xl_skip rfl rfl rfl ?_
                    refine xl_skip rfl rfl rfl ?_
                    refine xl_skip rfl rfl rfl ?_
                    refine xl_skip rfl rfl rfl ?_
                    refine xl_skip rfl rfl rfl ?_
                    refine xl_skip rfl rfl rfl ?_
                    refine xl_skip rfl rfl rfl ?_
                    refine xl_skip rfl rfl rfl ?_
                    refine xl_skip rfl rfl rfl ?_
                    refine xl_pure rfl rfl rfl (pv_pick_f (v := .bool _) rfl rfl rfl) ?_
                    refine xl_nil ?_
                    refine xthen_normal ?_
                    refine xc_cond_f rfl ?_
                    refine xc_skip ?_
                    refine xthen_normal ?_
                    refine xc_seq ?_
                    refine xc_seq ?_
                    refine xc_region ?_
                    refine xl_light rfl rfl rfl (lv_load (v := .agg _) rfl rfl (by first | exact ld_blk_a hr rfl rfl | exact ld_blk hr rfl | exact hr | exact ld_blk_a hw rfl rfl | exact ld_blk hw rfl | exact hw | exact ld_blk_a hq rfl rfl | exact ld_blk hq rfl | exact hq | exact cellAt_ext (hsa i (by omega)).2 hX | exact cellAt_ext (hsa i (by omega)).1 hX)) ?_
                    refine xl_heavy rfl rfl rfl (hv_call (g := 10) rfl rfl (c10 _ _ _ (.inl hxn) (by omega)) rfl) ?_
                    rintro v20_1 H20_1 ⟨e20_1, rfl, hg20_1, hE20_1⟩
                    have hX := hX.trans hE20_1
                    have hr := hr.ext hE20_1
                    have hw := hw.ext hE20_1
                    try have hq := hq.ext hE20_1
                    obtain rfl : e20_1 = 0 := by
                      rcases hg20_1 with ⟨_, h⟩ | ⟨h, _⟩
                      · exact h
                      · exact absurd hgx h
                    refine xl_ndec rfl rfl rfl (pv_neq rfl rfl rfl) (fun h20_2 => ?_) (fun h20_2 => ?_)
                    · skip
                      refine xl_pure rfl rfl rfl (pv_move (v := .bool _) rfl rfl) ?_
                      refine xl_light rfl rfl rfl (lv_load (v := .agg _) rfl rfl (by first | exact ld_blk_a hr rfl rfl | exact ld_blk hr rfl | exact hr | exact ld_blk_a hw rfl rfl | exact ld_blk hw rfl | exact hw | exact ld_blk_a hq rfl rfl | exact ld_blk hq rfl | exact hq | exact cellAt_ext (hsa i (by omega)).2 hX | exact cellAt_ext (hsa i (by omega)).1 hX)) ?_
                      refine xl_heavy rfl rfl rfl (hv_call (g := 11) rfl rfl (c11 j a c) rfl) ?_
                      rintro v20_5 H20_5 ⟨r20_5, rfl, hb20_5, hE20_5⟩
                      have hX := hX.trans hE20_5
                      have hr := hr.ext hE20_5
                      have hw := hw.ext hE20_5
                      try have hq := hq.ext hE20_5
                      obtain rfl : r20_5 = true := hb20_5.2 (by unfold Step at hstep; omega)
                      refine xl_pure rfl rfl rfl (pv_not rfl rfl) ?_
                      refine xl_pure rfl rfl rfl (pv_pick_f (v := .bool _) rfl rfl rfl) ?_
                      refine xl_pure rfl rfl rfl (pv_move (v := .bool _) rfl rfl) ?_
                      refine xl_pure rfl rfl rfl (pv_fieldAddr rfl rfl) ?_
                      refine xl_light rfl rfl rfl (lv_load (v := .int _ _) rfl rfl (by first | exact ld_blk_a hr rfl rfl | exact ld_blk hr rfl | exact hr | exact ld_blk_a hw rfl rfl | exact ld_blk hw rfl | exact hw | exact ld_blk_a hq rfl rfl | exact ld_blk hq rfl | exact hq | exact cellAt_ext (hsa i (by omega)).2 hX | exact cellAt_ext (hsa i (by omega)).1 hX)) ?_
                      refine xl_dec rfl rfl rfl (pv_eql rfl rfl rfl) (fun h20_11 => ?_) (fun h20_11 => ?_)
                      · skip
                        refine xl_pure rfl rfl rfl (pv_move (v := .bool _) rfl rfl) ?_
                        refine xl_pure rfl rfl rfl (pv_fieldAddr rfl rfl) ?_
                        refine xl_light rfl rfl rfl (lv_load (v := .int _ _) rfl rfl (by first | exact ld_blk_a hr rfl rfl | exact ld_blk hr rfl | exact hr | exact ld_blk_a hw rfl rfl | exact ld_blk hw rfl | exact hw | exact ld_blk_a hq rfl rfl | exact ld_blk hq rfl | exact hq | exact cellAt_ext (hsa i (by omega)).2 hX | exact cellAt_ext (hsa i (by omega)).1 hX)) ?_
                        refine xl_pure rfl rfl rfl (pv_fieldAddr rfl rfl) ?_
                        refine xl_light rfl rfl rfl (lv_load (v := .int _ _) rfl rfl (by first | exact ld_blk_a hr rfl rfl | exact ld_blk hr rfl | exact hr | exact ld_blk_a hw rfl rfl | exact ld_blk hw rfl | exact hw | exact ld_blk_a hq rfl rfl | exact ld_blk hq rfl | exact hq | exact cellAt_ext (hsa i (by omega)).2 hX | exact cellAt_ext (hsa i (by omega)).1 hX)) ?_
                        refine xl_pure rfl rfl rfl (pv_move (v := .int _ _) rfl rfl) ?_
                        refine xl_pure rfl rfl rfl (pv_sub rfl rfl rfl (fit_i64 (by omega))) ?_
                        refine xl_ndec rfl rfl rfl (pv_neq rfl rfl rfl) (fun h20_19 => ?_) (fun h20_19 => ?_)
                        · skip
                          refine xl_pure rfl rfl rfl (pv_pick_t (v := .bool _) rfl rfl rfl) ?_
                          refine xl_pure rfl rfl rfl (pv_pick_f (v := .bool _) rfl rfl rfl) ?_
                          refine xl_nil ?_
                          refine xthen_normal ?_
                          refine xc_cond_f rfl ?_
                          refine xc_skip ?_
                          refine xthen_normal ?_
                          refine xc_region ?_
                          refine xl_light rfl rfl rfl (lv_load (v := .agg _) rfl rfl (by first | exact ld_blk_a hr rfl rfl | exact ld_blk hr rfl | exact hr | exact ld_blk_a hw rfl rfl | exact ld_blk hw rfl | exact hw | exact ld_blk_a hq rfl rfl | exact ld_blk hq rfl | exact hq | exact cellAt_ext (hsa i (by omega)).2 hX | exact cellAt_ext (hsa i (by omega)).1 hX)) ?_
                          refine xl_store rfl rfl (hv_storeA (vs := [.int _ _, .int _ _, .int _ _, .int _ _, .int _ _, .int _ _, .int _ _, .int _ _, .int _ _, .int _ _, .int _ _, .slice _ _ _, .int _ _, .int _ _, .int _ _, .int _ _]) rfl rfl rfl (by first | exact ld_blk_a hr rfl rfl | exact ld_blk hr rfl | exact hr | exact ld_blk_a hw rfl rfl | exact ld_blk hw rfl | exact hw | exact ld_blk_a hq rfl rfl | exact ld_blk hq rfl | exact hq | exact cellAt_ext (hsa i (by omega)).2 hX | exact cellAt_ext (hsa i (by omega)).1 hX) rfl (by rfl) rfl) ?_
                          rintro v22_1 H22_1 ⟨hU22_1, hZ22_1⟩
                          have hX := hX.ofBut hU22_1.but hge
                          have hr := hU22_1.blk
                          refine xl_nil ?_
                          refine xblock_normal ?_
                          refine xthen_normal ?_
                          refine xc_region ?_
                          refine xl_pure rfl rfl rfl (pv_move (v := .int _ _) rfl rfl) ?_
                          refine xl_pure rfl rfl rfl (pv_add rfl rfl rfl (fit_i64 (by omega))) ?_
                          refine xl_pure rfl rfl rfl (pv_assign (v := .int _ _) rfl rfl) ?_
                          refine xl_nil ?_
                          refine xthen_normal ?_
                          first
                            | exact ⟨(j, a, c, _, ran, i + 1), ⟨rfl, rfl, rfl, rfl, rfl, trivial⟩, ⟨(by (try simp only); omega), hinv, (by (try simp only); omega), (by (try simp only); omega), hr, hX⟩, (by (try simp only); omega)⟩
                            | exact ⟨(_, _, _, _, ran2, i + 1), ⟨rfl, rfl, rfl, rfl, rfl, trivial⟩, ⟨(by (try simp only); omega), ⟨hgx, hxn, (by (try simp only); omega), (by unfold Step at hstep; (try simp only); omega), (by unfold Step at hstep; (try simp only); omega), (by unfold Step at hstep; (try simp only); intro h; omega)⟩, (by (try simp only); omega), (by (try simp only); omega), hr, hX⟩, (by (try simp only); omega)⟩
                        · exact absurd (by unfold Step at hstep; omega) h20_19
                      · skip
                        refine xl_pure rfl rfl rfl (pv_move (v := .bool _) rfl rfl) ?_
                        refine xl_skip rfl rfl rfl ?_
                        refine xl_skip rfl rfl rfl ?_
                        refine xl_skip rfl rfl rfl ?_
                        refine xl_skip rfl rfl rfl ?_
                        refine xl_skip rfl rfl rfl ?_
                        refine xl_skip rfl rfl rfl ?_
                        refine xl_skip rfl rfl rfl ?_
                        refine xl_pure rfl rfl rfl (pv_pick_f (v := .bool _) rfl rfl rfl) ?_
                        refine xl_pure rfl rfl rfl (pv_pick_f (v := .bool _) rfl rfl rfl) ?_
                        refine xl_nil ?_
                        refine xthen_normal ?_
                        refine xc_cond_f rfl ?_
                        refine xc_skip ?_
                        refine xthen_normal ?_
                        refine xc_region ?_
                        refine xl_light rfl rfl rfl (lv_load (v := .agg _) rfl rfl (by first | exact ld_blk_a hr rfl rfl | exact ld_blk hr rfl | exact hr | exact ld_blk_a hw rfl rfl | exact ld_blk hw rfl | exact hw | exact ld_blk_a hq rfl rfl | exact ld_blk hq rfl | exact hq | exact cellAt_ext (hsa i (by omega)).2 hX | exact cellAt_ext (hsa i (by omega)).1 hX)) ?_
                        refine xl_store rfl rfl (hv_storeA (vs := [.int _ _, .int _ _, .int _ _, .int _ _, .int _ _, .int _ _, .int _ _, .int _ _, .int _ _, .int _ _, .int _ _, .slice _ _ _, .int _ _, .int _ _, .int _ _, .int _ _]) rfl rfl rfl (by first | exact ld_blk_a hr rfl rfl | exact ld_blk hr rfl | exact hr | exact ld_blk_a hw rfl rfl | exact ld_blk hw rfl | exact hw | exact ld_blk_a hq rfl rfl | exact ld_blk hq rfl | exact hq | exact cellAt_ext (hsa i (by omega)).2 hX | exact cellAt_ext (hsa i (by omega)).1 hX) rfl (by rfl) rfl) ?_
                        rintro v22_1 H22_1 ⟨hU22_1, hZ22_1⟩
                        have hX := hX.ofBut hU22_1.but hge
                        have hr := hU22_1.blk
                        refine xl_nil ?_
                        refine xblock_normal ?_
                        refine xthen_normal ?_
                        refine xc_region ?_
                        refine xl_pure rfl rfl rfl (pv_move (v := .int _ _) rfl rfl) ?_
                        refine xl_pure rfl rfl rfl (pv_add rfl rfl rfl (fit_i64 (by omega))) ?_
                        refine xl_pure rfl rfl rfl (pv_assign (v := .int _ _) rfl rfl) ?_
                        refine xl_nil ?_
                        refine xthen_normal ?_
                        first
                          | exact ⟨(j, a, c, _, ran, i + 1), ⟨rfl, rfl, rfl, rfl, rfl, trivial⟩, ⟨(by (try simp only); omega), hinv, (by (try simp only); omega), (by (try simp only); omega), hr, hX⟩, (by (try simp only); omega)⟩
                          | exact ⟨(_, _, _, _, ran2, i + 1), ⟨rfl, rfl, rfl, rfl, rfl, trivial⟩, ⟨(by (try simp only); omega), ⟨hgx, hxn, (by (try simp only); omega), (by unfold Step at hstep; (try simp only); omega), (by unfold Step at hstep; (try simp only); omega), (by unfold Step at hstep; (try simp only); intro h; omega)⟩, (by (try simp only); omega), (by (try simp only); omega), hr, hX⟩, (by (try simp only); omega)⟩
                    · exact absurd (by decide) h20_2
                · skip
                  refine xl_pure rfl rfl rfl (pv_move (v := .bool _) rfl rfl) ?_
                  refine xl_skip rfl rfl rfl ?_
                  refine xl_skip rfl rfl rfl ?_
                  refine xl_skip rfl rfl rfl ?_
                  refine xl_pure rfl rfl rfl (pv_pick_f (v := .bool _) rfl rfl rfl) ?_
                  refine xl_pure rfl rfl rfl (pv_move (v := .bool _) rfl rfl) ?_
                  refine xl_skip rfl rfl rfl ?_
                  refine xl_skip rfl rfl rfl ?_
                  refine xl_skip rfl rfl rfl ?_
                  refine xl_skip rfl rfl rfl ?_
                  refine xl_skip rfl rfl rfl ?_
                  refine xl_skip rfl rfl rfl ?_
                  refine xl_skip rfl rfl rfl ?_
                  refine xl_skip rfl rfl rfl ?_
                  refine xl_skip rfl rfl rfl ?_
                  refine xl_skip rfl rfl rfl ?_
                  refine xl_skip rfl rfl rfl ?_
                  refine xl_skip rfl rfl rfl ?_
                  refine xl_skip rfl rfl rfl ?_
                  refine xl_skip rfl rfl rfl ?_
                  refine xl_skip rfl rfl rfl ?_
                  refine xl_skip rfl rfl rfl ?_
                  refine xl_pure rfl rfl rfl (pv_pick_f (v := .bool _) rfl rfl rfl) ?_
                  refine xl_nil ?_
                  refine xthen_normal ?_
                  refine xc_cond_f rfl ?_
                  refine xc_skip ?_
                  refine xthen_normal ?_
                  refine xc_seq ?_
                  refine xc_seq ?_
                  refine xc_region ?_
                  refine xl_light rfl rfl rfl (lv_load (v := .agg _) rfl rfl (by first | exact ld_blk_a hr rfl rfl | exact ld_blk hr rfl | exact hr | exact ld_blk_a hw rfl rfl | exact ld_blk hw rfl | exact hw | exact ld_blk_a hq rfl rfl | exact ld_blk hq rfl | exact hq | exact cellAt_ext (hsa i (by omega)).2 hX | exact cellAt_ext (hsa i (by omega)).1 hX)) ?_
                  refine xl_heavy rfl rfl rfl (hv_call (g := 10) rfl rfl (c10 _ _ _ (.inl hxn) (by omega)) rfl) ?_
                  rintro v20_1 H20_1 ⟨e20_1, rfl, hg20_1, hE20_1⟩
                  have hX := hX.trans hE20_1
                  have hr := hr.ext hE20_1
                  have hw := hw.ext hE20_1
                  try have hq := hq.ext hE20_1
                  obtain rfl : e20_1 = 0 := by
                    rcases hg20_1 with ⟨_, h⟩ | ⟨h, _⟩
                    · exact h
                    · exact absurd hgx h
                  refine xl_ndec rfl rfl rfl (pv_neq rfl rfl rfl) (fun h20_2 => ?_) (fun h20_2 => ?_)
                  · skip
                    refine xl_pure rfl rfl rfl (pv_move (v := .bool _) rfl rfl) ?_
                    refine xl_light rfl rfl rfl (lv_load (v := .agg _) rfl rfl (by first | exact ld_blk_a hr rfl rfl | exact ld_blk hr rfl | exact hr | exact ld_blk_a hw rfl rfl | exact ld_blk hw rfl | exact hw | exact ld_blk_a hq rfl rfl | exact ld_blk hq rfl | exact hq | exact cellAt_ext (hsa i (by omega)).2 hX | exact cellAt_ext (hsa i (by omega)).1 hX)) ?_
                    refine xl_heavy rfl rfl rfl (hv_call (g := 11) rfl rfl (c11 j a c) rfl) ?_
                    rintro v20_5 H20_5 ⟨r20_5, rfl, hb20_5, hE20_5⟩
                    have hX := hX.trans hE20_5
                    have hr := hr.ext hE20_5
                    have hw := hw.ext hE20_5
                    try have hq := hq.ext hE20_5
                    obtain rfl : r20_5 = true := hb20_5.2 (by unfold Step at hstep; omega)
                    refine xl_pure rfl rfl rfl (pv_not rfl rfl) ?_
                    refine xl_pure rfl rfl rfl (pv_pick_f (v := .bool _) rfl rfl rfl) ?_
                    refine xl_pure rfl rfl rfl (pv_move (v := .bool _) rfl rfl) ?_
                    refine xl_pure rfl rfl rfl (pv_fieldAddr rfl rfl) ?_
                    refine xl_light rfl rfl rfl (lv_load (v := .int _ _) rfl rfl (by first | exact ld_blk_a hr rfl rfl | exact ld_blk hr rfl | exact hr | exact ld_blk_a hw rfl rfl | exact ld_blk hw rfl | exact hw | exact ld_blk_a hq rfl rfl | exact ld_blk hq rfl | exact hq | exact cellAt_ext (hsa i (by omega)).2 hX | exact cellAt_ext (hsa i (by omega)).1 hX)) ?_
                    refine xl_dec rfl rfl rfl (pv_eql rfl rfl rfl) (fun h20_11 => ?_) (fun h20_11 => ?_)
                    · skip
                      refine xl_pure rfl rfl rfl (pv_move (v := .bool _) rfl rfl) ?_
                      refine xl_pure rfl rfl rfl (pv_fieldAddr rfl rfl) ?_
                      refine xl_light rfl rfl rfl (lv_load (v := .int _ _) rfl rfl (by first | exact ld_blk_a hr rfl rfl | exact ld_blk hr rfl | exact hr | exact ld_blk_a hw rfl rfl | exact ld_blk hw rfl | exact hw | exact ld_blk_a hq rfl rfl | exact ld_blk hq rfl | exact hq | exact cellAt_ext (hsa i (by omega)).2 hX | exact cellAt_ext (hsa i (by omega)).1 hX)) ?_
                      refine xl_pure rfl rfl rfl (pv_fieldAddr rfl rfl) ?_
                      refine xl_light rfl rfl rfl (lv_load (v := .int _ _) rfl rfl (by first | exact ld_blk_a hr rfl rfl | exact ld_blk hr rfl | exact hr | exact ld_blk_a hw rfl rfl | exact ld_blk hw rfl | exact hw | exact ld_blk_a hq rfl rfl | exact ld_blk hq rfl | exact hq | exact cellAt_ext (hsa i (by omega)).2 hX | exact cellAt_ext (hsa i (by omega)).1 hX)) ?_
                      refine xl_pure rfl rfl rfl (pv_move (v := .int _ _) rfl rfl) ?_
                      refine xl_pure rfl rfl rfl (pv_sub rfl rfl rfl (fit_i64 (by omega))) ?_
                      refine xl_ndec rfl rfl rfl (pv_neq rfl rfl rfl) (fun h20_19 => ?_) (fun h20_19 => ?_)
                      · skip
                        refine xl_pure rfl rfl rfl (pv_pick_t (v := .bool _) rfl rfl rfl) ?_
                        refine xl_pure rfl rfl rfl (pv_pick_f (v := .bool _) rfl rfl rfl) ?_
                        refine xl_nil ?_
                        refine xthen_normal ?_
                        refine xc_cond_f rfl ?_
                        refine xc_skip ?_
                        refine xthen_normal ?_
                        refine xc_region ?_
                        refine xl_light rfl rfl rfl (lv_load (v := .agg _) rfl rfl (by first | exact ld_blk_a hr rfl rfl | exact ld_blk hr rfl | exact hr | exact ld_blk_a hw rfl rfl | exact ld_blk hw rfl | exact hw | exact ld_blk_a hq rfl rfl | exact ld_blk hq rfl | exact hq | exact cellAt_ext (hsa i (by omega)).2 hX | exact cellAt_ext (hsa i (by omega)).1 hX)) ?_
                        refine xl_store rfl rfl (hv_storeA (vs := [.int _ _, .int _ _, .int _ _, .int _ _, .int _ _, .int _ _, .int _ _, .int _ _, .int _ _, .int _ _, .int _ _, .slice _ _ _, .int _ _, .int _ _, .int _ _, .int _ _]) rfl rfl rfl (by first | exact ld_blk_a hr rfl rfl | exact ld_blk hr rfl | exact hr | exact ld_blk_a hw rfl rfl | exact ld_blk hw rfl | exact hw | exact ld_blk_a hq rfl rfl | exact ld_blk hq rfl | exact hq | exact cellAt_ext (hsa i (by omega)).2 hX | exact cellAt_ext (hsa i (by omega)).1 hX) rfl (by rfl) rfl) ?_
                        rintro v22_1 H22_1 ⟨hU22_1, hZ22_1⟩
                        have hX := hX.ofBut hU22_1.but hge
                        have hr := hU22_1.blk
                        refine xl_nil ?_
                        refine xblock_normal ?_
                        refine xthen_normal ?_
                        refine xc_region ?_
                        refine xl_pure rfl rfl rfl (pv_move (v := .int _ _) rfl rfl) ?_
                        refine xl_pure rfl rfl rfl (pv_add rfl rfl rfl (fit_i64 (by omega))) ?_
                        refine xl_pure rfl rfl rfl (pv_assign (v := .int _ _) rfl rfl) ?_
                        refine xl_nil ?_
                        refine xthen_normal ?_
                        first
                          | exact ⟨(j, a, c, _, ran, i + 1), ⟨rfl, rfl, rfl, rfl, rfl, trivial⟩, ⟨(by (try simp only); omega), hinv, (by (try simp only); omega), (by (try simp only); omega), hr, hX⟩, (by (try simp only); omega)⟩
                          | exact ⟨(_, _, _, _, ran2, i + 1), ⟨rfl, rfl, rfl, rfl, rfl, trivial⟩, ⟨(by (try simp only); omega), ⟨hgx, hxn, (by (try simp only); omega), (by unfold Step at hstep; (try simp only); omega), (by unfold Step at hstep; (try simp only); omega), (by unfold Step at hstep; (try simp only); intro h; omega)⟩, (by (try simp only); omega), (by (try simp only); omega), hr, hX⟩, (by (try simp only); omega)⟩
                      · exact absurd (by unfold Step at hstep; omega) h20_19
                    · skip
                      refine xl_pure rfl rfl rfl (pv_move (v := .bool _) rfl rfl) ?_
                      refine xl_skip rfl rfl rfl ?_
                      refine xl_skip rfl rfl rfl ?_
                      refine xl_skip rfl rfl rfl ?_
                      refine xl_skip rfl rfl rfl ?_
                      refine xl_skip rfl rfl rfl ?_
                      refine xl_skip rfl rfl rfl ?_
                      refine xl_skip rfl rfl rfl ?_
                      refine xl_pure rfl rfl rfl (pv_pick_f (v := .bool _) rfl rfl rfl) ?_
                      refine xl_pure rfl rfl rfl (pv_pick_f (v := .bool _) rfl rfl rfl) ?_
                      refine xl_nil ?_
                      refine xthen_normal ?_
                      refine xc_cond_f rfl ?_
                      refine xc_skip ?_
                      refine xthen_normal ?_
                      refine xc_region ?_
                      refine xl_light rfl rfl rfl (lv_load (v := .agg _) rfl rfl (by first | exact ld_blk_a hr rfl rfl | exact ld_blk hr rfl | exact hr | exact ld_blk_a hw rfl rfl | exact ld_blk hw rfl | exact hw | exact ld_blk_a hq rfl rfl | exact ld_blk hq rfl | exact hq | exact cellAt_ext (hsa i (by omega)).2 hX | exact cellAt_ext (hsa i (by omega)).1 hX)) ?_
                      refine xl_store rfl rfl (hv_storeA (vs := [.int _ _, .int _ _, .int _ _, .int _ _, .int _ _, .int _ _, .int _ _, .int _ _, .int _ _, .int _ _, .int _ _, .slice _ _ _, .int _ _, .int _ _, .int _ _, .int _ _]) rfl rfl rfl (by first | exact ld_blk_a hr rfl rfl | exact ld_blk hr rfl | exact hr | exact ld_blk_a hw rfl rfl | exact ld_blk hw rfl | exact hw | exact ld_blk_a hq rfl rfl | exact ld_blk hq rfl | exact hq | exact cellAt_ext (hsa i (by omega)).2 hX | exact cellAt_ext (hsa i (by omega)).1 hX) rfl (by rfl) rfl) ?_
                      rintro v22_1 H22_1 ⟨hU22_1, hZ22_1⟩
                      have hX := hX.ofBut hU22_1.but hge
                      have hr := hU22_1.blk
                      refine xl_nil ?_
                      refine xblock_normal ?_
                      refine xthen_normal ?_
                      refine xc_region ?_
                      refine xl_pure rfl rfl rfl (pv_move (v := .int _ _) rfl rfl) ?_
                      refine xl_pure rfl rfl rfl (pv_add rfl rfl rfl (fit_i64 (by omega))) ?_
                      refine xl_pure rfl rfl rfl (pv_assign (v := .int _ _) rfl rfl) ?_
                      refine xl_nil ?_
                      refine xthen_normal ?_
                      first
                        | exact ⟨(j, a, c, _, ran, i + 1), ⟨rfl, rfl, rfl, rfl, rfl, trivial⟩, ⟨(by (try simp only); omega), hinv, (by (try simp only); omega), (by (try simp only); omega), hr, hX⟩, (by (try simp only); omega)⟩
                        | exact ⟨(_, _, _, _, ran2, i + 1), ⟨rfl, rfl, rfl, rfl, rfl, trivial⟩, ⟨(by (try simp only); omega), ⟨hgx, hxn, (by (try simp only); omega), (by unfold Step at hstep; (try simp only); omega), (by unfold Step at hstep; (try simp only); omega), (by unfold Step at hstep; (try simp only); intro h; omega)⟩, (by (try simp only); omega), (by (try simp only); omega), hr, hX⟩, (by (try simp only); omega)⟩
                  · exact absurd (by decide) h20_2
            · exact absurd (by decide) h13_1
      · skip
        refine xl_nil ?_
        refine xthen_normal ?_
        refine xc_cond_f rfl ?_
        refine xc_exit ?_
        refine xthen_exit ?_
        refine xthen_exit ?_
        refine xblock_same ?_
        refine xthen_normal ?_
        refine xc_seq ?_
        refine xc_region ?_
        refine xl_heavy rfl rfl rfl (hv_call (g := 6) rfl rfl (c6) rfl) ?_
        rintro v23_0 H23_0 ⟨rfl, hE23_0⟩
        have hX := hX.trans hE23_0
        refine xl_pure rfl rfl rfl (pv_assign (v := .bool _) rfl rfl) ?_
        refine xl_nil ?_
        refine xthen_normal ?_
        refine xc_ret ?_
        refine fin_ret (res1 (v := .bool _) rfl rfl) ?_
        exact ⟨rfl, hX⟩
end Go.XG
