/-
  Walks of the seat's functions over the logic XG: each function, what it computes. Printed by a program out of wip/walks.py.
-/
import Derived.Test.YthglaedojgiifaaI
import Derived.Test.YthglaedojgiifaaTm
import Derived.Test.YthglaedojgiifaaTa
import Derived.Test.YthglaedojgiifaaTb
import Derived.Test.YthglaedojgiifaaTc
import Derived.Test.YthglaedojgiifaaTd
import Derived.Test.YthglaedojgiifaaTe
import Derived.Test.YthglaedojgiifaaP
import Derived.Test.YthglaedojgiifaaWa
import Derived.Test.YthglaedojgiifaaWb
import Derived.Test.YthglaedojgiifaaWc
import Derived.Test.YthglaedojgiifaaWd
import Derived.Test.YthglaedojgiifaaWe
import Derived.Test.YthglaedojgiifaaWf
import Derived.Test.YthglaedojgiifaaWg
import Derived.Test.YthglaedojgiifaaWh
import Derived.Test.YthglaedojgiifaaWi
namespace Go.XG
open Go.Proofs
set_option maxRecDepth 4000
set_option maxHeartbeats 4000000
theorem c6 {O : Outer} {H : Heap} {al : Option Addr} {cl : Nat} {L : List (List Int)} (hL : Rows H al 6 L) (x0 x1 x2 x3 x4 x5 x6 x7 most : Int) :
    FnC Try.prog 6 #[.slice al L.length cl, .agg #[.int .i64 x0, .int .i64 x1, .int .i64 x2, .int .i64 x3, .int .i64 x4, .int .i64 x5, .int .i64 x6, .int .i64 x7], .int .i64 most] O H (fun v H' => v = .bool true ∧ Ext H H') := by
  refine fn_enter (A := [.slice al L.length cl, .agg #[.int .i64 x0, .int .i64 x1, .int .i64 x2, .int .i64 x3, .int .i64 x4, .int .i64 x5, .int .i64 x6, .int .i64 x7], .int .i64 most]) Try.func6 rfl rfl ?_
  have hX := Ext.refl H
  refine xc_seq ?_
  refine xc_region ?_
  refine xl_heavy rfl rfl rfl (hv_box rfl rfl) ?_
  rintro v0_0 H0_0 ⟨b0_0, rfl, hN0_0⟩
  have gb0_0 := hX.fresh hN0_0
  have hX := hX.trans hN0_0.ext
  have m0_0 := hN0_0.blk
  refine xl_pure rfl rfl rfl (pv_assign (v := .bool _) rfl rfl) ?_
  refine xl_nil ?_
  refine xthen_normal ?_
  refine xc_seq ?_
  refine xc_seq ?_
  refine xc_region ?_
  refine xl_pure rfl rfl rfl (pv_move (v := .slice _ _ _) rfl rfl) ?_
  refine xl_pure rfl rfl rfl (pv_len_l rfl rfl) ?_
  refine xl_dec rfl rfl rfl (pv_gtr rfl rfl rfl) (fun h1_2 => ?_) (fun h1_2 => ?_)
  · skip
    refine xl_nil ?_
    refine xthen_normal ?_
    refine xc_cond_t rfl ?_
    refine xc_seq ?_
    refine xc_region ?_
    refine xl_heavy rfl rfl rfl (hv_call (g := 10) rfl rfl (c10) rfl) ?_
    rintro v2_0 H2_0 ⟨rfl, hE2_0⟩
    have m0_0 := m0_0.ext hE2_0
    have hX := hX.trans hE2_0
    refine xl_pure rfl rfl rfl (pv_assign (v := .bool _) rfl rfl) ?_
    refine xl_nil ?_
    refine xthen_normal ?_
    refine xc_ret ?_
    refine xthen_ret ?_
    refine fin_ret (res1 (v := .bool _) rfl rfl) ?_
    exact ⟨rfl, hX⟩
  · skip
    refine xl_nil ?_
    refine xthen_normal ?_
    refine xc_cond_f rfl ?_
    refine xc_skip ?_
    refine xthen_normal ?_
    refine xc_seq ?_
    refine xc_region ?_
    refine xl_pure rfl rfl rfl (pv_build_s (cs := [.slice _ _ _]) rfl rfl rfl) ?_
    refine xl_heavy rfl rfl rfl (hv_box rfl rfl) ?_
    rintro v3_1 H3_1 ⟨b3_1, rfl, hN3_1⟩
    have gb3_1 := hX.fresh hN3_1
    have nm0_0_3_1 := m0_0.apart hN3_1
    have m0_0 := m0_0.ext hN3_1.ext
    have hX := hX.trans hN3_1.ext
    have m3_1 := hN3_1.blk
    refine xl_pure rfl rfl rfl (pv_assign (v := .pointer _) rfl rfl) ?_
    refine xl_nil ?_
    refine xthen_normal ?_
    refine xc_seq ?_
    refine xc_region ?_
    refine xl_pure rfl rfl rfl (pv_move (v := .pointer _) rfl rfl) ?_
    refine xl_pure rfl rfl rfl (pv_move (v := .slice _ _ _) rfl rfl) ?_
    refine xl_heavy rfl rfl rfl (hv_call (g := 11) rfl rfl (c11 m3_1 (rowsO_new hL (by decide) hX gb3_1.le) (by omega)) rfl) ?_
    rintro v4_2 H4_2 ⟨ax4_2, cx4_2, a4_2, c4_2, rfl, hQ4_2, hcx4_2, hT4_2, hR4_2, hc4_2, hna4_2, hB4_2⟩
    have m0_0 := m0_0.off hB4_2 (by first | exact nm0_0_3_1 | exact ⟨m0_0.ne m3_1 rfl⟩ | exact ⟨m0_0.ne m3_1 (by assumption)⟩ | exact ⟨Ne.symm (m3_1.ne m0_0 (by assumption))⟩)
    have hX := hX.upd hB4_2 gb3_1
    have m3_1 := hT4_2
    obtain ⟨hpw, hps, hpl⟩ := play_all hL.1
    have hp2 : (playR L).length < 1099511627776 := by omega
    refine xl_pure rfl rfl rfl (pv_move (v := .tuple _) rfl rfl) ?_
    refine xl_pure rfl rfl rfl (pv_extract (v := .slice _ _ _) rfl rfl rfl) ?_
    refine xl_pure rfl rfl rfl (pv_extract (v := .bool _) rfl rfl rfl) ?_
    refine xl_pure rfl rfl rfl (pv_assign (v := .slice _ _ _) rfl rfl) ?_
    refine xl_pure rfl rfl rfl (pv_assign (v := .bool _) rfl rfl) ?_
    refine xl_nil ?_
    refine xthen_normal ?_
    refine xc_seq ?_
    refine xp_start rfl (by repeat (first | with_reducible exact np_fin | with_reducible refine np_then ?_ | with_reducible refine np_block ?_)) (by kernel_rfl) ?_
    refine xp_pure (i := 0) rfl (by kernel_rfl) (by kernel_rfl) rfl rfl rfl (pv_move (v := .bool _) rfl rfl) ?_
    refine xp_pure (i := 1) rfl (by kernel_rfl) (by kernel_rfl) rfl rfl rfl (pv_move (v := .bool _) rfl rfl) ?_
    refine xp_pure (i := 2) rfl (by kernel_rfl) (by kernel_rfl) rfl rfl rfl (pv_move (v := .pointer _) rfl rfl) ?_
    refine xp_pure (i := 3) rfl (by kernel_rfl) (by kernel_rfl) rfl rfl rfl (pv_indexAddr_a rfl rfl rfl (by omega)) ?_
    refine xp_light (i := 4) rfl (by kernel_rfl) (by kernel_rfl) rfl rfl rfl (lv_load (v := .agg _) rfl rfl (ld_part (k := 0) m0_0.row rfl rfl rfl)) ?_
    refine xp_pure (i := 5) rfl (by kernel_rfl) (by kernel_rfl) rfl rfl rfl (pv_indexAddr_a rfl rfl rfl (by omega)) ?_
    refine xp_light (i := 6) rfl (by kernel_rfl) (by kernel_rfl) rfl rfl rfl (lv_load (v := .agg _) rfl rfl (ld_part (k := 4) m0_0.row rfl rfl rfl)) ?_
    refine xp_pure (i := 7) rfl (by kernel_rfl) (by kernel_rfl) rfl rfl rfl (pv_move (v := .int _ _) rfl rfl) ?_
    refine xp_pure (i := 9) rfl (by kernel_rfl) (by kernel_rfl) rfl rfl rfl (pv_move (v := .slice _ _ _) rfl rfl) ?_
    refine xp_pure (i := 10) rfl (by kernel_rfl) (by kernel_rfl) rfl rfl rfl (pv_indexAddr_a rfl rfl rfl (by omega)) ?_
    refine xp_light (i := 11) rfl (by kernel_rfl) (by kernel_rfl) rfl rfl rfl (lv_load (v := .agg _) rfl rfl (ld_part (k := 0) m0_0.row rfl rfl rfl)) ?_
    refine xp_pure (i := 12) rfl (by kernel_rfl) (by kernel_rfl) rfl rfl rfl (pv_indexAddr_a rfl rfl rfl (by omega)) ?_
    refine xp_light (i := 13) rfl (by kernel_rfl) (by kernel_rfl) rfl rfl rfl (lv_load (v := .agg _) rfl rfl (ld_part (k := 4) m0_0.row rfl rfl rfl)) ?_
    refine xp_pure (i := 14) rfl (by kernel_rfl) (by kernel_rfl) rfl rfl rfl (pv_move (v := .int _ _) rfl rfl) ?_
    refine xp_heavy (i := 8) (by kernel_rfl) ?_
    refine xph_val rfl rfl rfl rfl (hv_call (g := 23) rfl rfl (c23 m3_1 hR4_2 (rfl : Nat.beq 32 69 = false) hps hc4_2 hna4_2 hp2 [x0, x1, x2, x3] [x4, x5, x6, x7] rfl rfl most rfl rfl) rfl) (pk (by kernel_rfl) (pk (by kernel_rfl) (pd (by kernel_rfl) (pd (by kernel_rfl) pn)))) ?_
    rintro v5_8 H5_8 ⟨a5_8, c5_8, rfl, hA5_8, hE5_8⟩
    have m0_0 := m0_0.ext hE5_8
    have m3_1 := m3_1.ext hE5_8
    have hR4_2 := hR4_2.ext hE5_8
    have hQ4_2 := hQ4_2.ext hE5_8
    have hX := hX.trans hE5_8
    refine ⟨(okc (lv_load (v := .agg _) rfl rfl (ld_part (k := 4) m0_0.row rfl rfl rfl)) (okc (lv_load (v := .agg _) rfl rfl (ld_part (k := 0) m0_0.row rfl rfl rfl)) okn)), ?_⟩
    refine xp_heavy (i := 15) (by kernel_rfl) ?_
    refine xph_val rfl rfl rfl rfl (hv_call (g := 24) rfl rfl (c24 hQ4_2 hp2 [x0, x1, x2, x3] [x4, x5, x6, x7] rfl rfl most) rfl) (pd (by kernel_rfl) (pd (by kernel_rfl) pn)) ?_
    rintro v5_15 H5_15 ⟨a5_15, c5_15, hv5_15, hB5_15, hE5_15⟩
    have m0_0 := m0_0.ext hE5_15
    have m3_1 := m3_1.ext hE5_15
    have hR4_2 := hR4_2.ext hE5_15
    have hQ4_2 := hQ4_2.ext hE5_15
    have hA5_8 := hA5_8.ext hE5_15
    have hX := hX.trans hE5_15
    have hrf : (playR L).filter (inR [x0, x1, x2, x3] [x4, x5, x6, x7]) = rngR (playR L) [x0, x1, x2, x3] [x4, x5, x6, x7] := (rng_filter (by decide) rfl rfl hps hpw).symm
    rw [hrf] at hv5_15 hB5_15
    subst hv5_15
    have rngl : (rngR (playR L) [x0, x1, x2, x3] [x4, x5, x6, x7]).length ≤ (playR L).length := by rw [← hrf]; exact List.length_filter_le _ _
    refine ⟨okn, ?_⟩
    refine xp_heavy (i := 16) (by kernel_rfl) ?_
    refine xph_val rfl rfl rfl rfl (hv_call (g := 13) rfl rfl (c13 ((rngR (playR L) [x0, x1, x2, x3] [x4, x5, x6, x7]).take most.toNat) ((rngR (playR L) [x0, x1, x2, x3] [x4, x5, x6, x7]).take most.toNat) _ _ _ _ hA5_8.rows hB5_15.rows (by rw [List.length_take]; omega)) rfl) pn ?_
    rintro v5_16 H5_16 ⟨r5_16, rfl, hb5_16, rfl⟩
    obtain rfl : r5_16 = true := hb5_16.2 rfl
    refine ⟨okn, ?_⟩
    refine xp_pure (i := 17) rfl (by kernel_rfl) (by kernel_rfl) rfl rfl rfl (pv_pick_t (v := .bool _) rfl rfl rfl) ?_
    refine xp_pure (i := 18) rfl (by kernel_rfl) (by kernel_rfl) rfl rfl rfl (pv_move (v := .bool _) rfl rfl) ?_
    refine xp_heavy (i := 19) (by kernel_rfl) ?_
    refine xph_val rfl rfl rfl rfl (hv_call (g := 10) rfl rfl (c10) rfl) pn ?_
    rintro v5_19 H5_19 ⟨rfl, hE5_19⟩
    have m0_0 := m0_0.ext hE5_19
    have m3_1 := m3_1.ext hE5_19
    have hR4_2 := hR4_2.ext hE5_19
    have hQ4_2 := hQ4_2.ext hE5_19
    have hA5_8 := hA5_8.ext hE5_19
    have hB5_15 := hB5_15.ext hE5_19
    have hX := hX.trans hE5_19
    refine ⟨okn, ?_⟩
    refine xp_pure (i := 20) rfl (by kernel_rfl) (by kernel_rfl) rfl rfl rfl (pv_pick_t (v := .bool _) rfl rfl rfl) ?_
    refine xp_pure (i := 21) rfl (by kernel_rfl) (by kernel_rfl) rfl rfl rfl (pv_assign (v := .bool _) rfl rfl) ?_
    refine xp_done (by kernel_rfl) ?_
    refine xthen_normal ?_
    refine xc_ret ?_
    refine fin_ret (res1 (v := .bool _) rfl rfl) ?_
    exact ⟨rfl, hX⟩
end Go.XG
