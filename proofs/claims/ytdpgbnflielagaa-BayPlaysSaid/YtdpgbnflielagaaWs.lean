/-
  Walks of the seat's functions over the logic XG: each function, what it computes. Printed by a program out of wip/walks.py.
-/
import Derived.Test.YtdpgbnflielagaaI
import Derived.Test.YtdpgbnflielagaaN
import Derived.Test.YtdpgbnflielagaaDm
import Derived.Test.YtdpgbnflielagaaWa
import Derived.Test.YtdpgbnflielagaaWb
import Derived.Test.YtdpgbnflielagaaWc
import Derived.Test.YtdpgbnflielagaaWd
import Derived.Test.YtdpgbnflielagaaWe
import Derived.Test.YtdpgbnflielagaaWf
import Derived.Test.YtdpgbnflielagaaWg
import Derived.Test.YtdpgbnflielagaaWh
import Derived.Test.YtdpgbnflielagaaWi
import Derived.Test.YtdpgbnflielagaaWj
import Derived.Test.YtdpgbnflielagaaWk
import Derived.Test.YtdpgbnflielagaaWl
import Derived.Test.YtdpgbnflielagaaWm
import Derived.Test.YtdpgbnflielagaaWo
import Derived.Test.YtdpgbnflielagaaWp
import Derived.Test.YtdpgbnflielagaaWq
import Derived.Test.YtdpgbnflielagaaWr
namespace Go.XG
open Go.Proofs
set_option maxRecDepth 4000
set_option maxHeartbeats 4000000
theorem dask {O : Outer} {H : Heap} {la xa : Option Addr} {lc xc : Nat} {l : List (List Int)} {S : List Sd} {f : Fn} {G : Nat → Prop} {B : Nat} (hs : Rows H la 4 l) (hN : sls l = S.map Sd.sl) (hx : LX B H G xa xc (S.map lnS)) (hI : IV S f) (hG : ∀ i, G i → i < H.size) (hB : B ≤ H.size) (b o j : Int) :
    FnC Try.prog 33 #[.agg #[.slice la l.length lc, .slice xa S.length xc], .int .i64 b, .int .i64 o, .int .i64 j] O H (fun v H' => ∃ a' c', v = .tuple #[.agg #[.slice la l.length lc, .slice a' S.length c'], .bool (askR S f b o j), .int .i64 (askE S f b o j)] ∧ LX B H' G a' c' ((askS S f b o j).map lnS) ∧ Ext H H') := by
  have hx0 := hx
  obtain ⟨E, hEm, hE, hEc⟩ := hx
  have hEl : E.length = S.length := by have := congrArg List.length hEm; rwa [List.length_map, List.length_map] at this
  obtain ⟨gx, ox, hdx⟩ := hE.at'
  have h16 := hI.gs.1
  have hll := sls_S hN
  have hGX : ∀ {H1 : Heap}, Ext H H1 → ∀ i, G i → i < H1.size := fun e i h => Nat.lt_of_lt_of_le (hG i h) e.size
  refine fn_enter (A := [.agg #[.slice la l.length lc, .slice xa S.length xc], .int .i64 b, .int .i64 o, .int .i64 j]) Try.func33 rfl rfl ?_
  have hX := Ext.refl H
  refine xc_seq ?_
  refine xc_region ?_
  refine xl_heavy rfl rfl rfl (hv_box rfl rfl) ?_
  rintro v0_0 H0_0 ⟨b0_0, rfl, hN0_0⟩
  have gb0_0 := hX.fresh hN0_0
  have hX := hX.trans hN0_0.ext
  have m0_0 := hN0_0.blk
  refine xl_heavy rfl rfl rfl (hv_alloc rfl rfl) ?_
  rintro v0_1 H0_1 ⟨b0_1, rfl, hN0_1⟩
  have gb0_1 := hX.fresh hN0_1
  have nm0_0_0_1 := m0_0.apart hN0_1
  have m0_0 := m0_0.ext hN0_1.ext
  have hX := hX.trans hN0_1.ext
  have m0_1 := hN0_1.blk
  refine xl_pure rfl rfl rfl (pv_assign (v := .bool _) rfl rfl) ?_
  refine xl_pure rfl rfl rfl (pv_assign (v := .int _ _) rfl rfl) ?_
  refine xl_nil ?_
  refine xthen_normal ?_
  refine xc_seq ?_
  have hbB : B ≤ b0_1 := Nat.le_trans hB gb0_1.le
  refine xc_region ?_
  refine xl_light rfl rfl rfl (lv_load (v := .agg _) rfl rfl (ld_blk_a m0_0 rfl rfl)) ?_
  refine xl_pure rfl rfl rfl (pv_move (v := .int _ _) rfl rfl) ?_
  refine xl_pure rfl rfl rfl (pv_move (v := .int _ _) rfl rfl) ?_
  refine xl_heavy rfl rfl rfl (hv_call (g := 43) rfl rfl (dline (show l.length ≤ 8 by omega) b o) rfl) ?_
  rintro v1_3 H1_3 ⟨hv1_3, hE1_3⟩
  have m0_0 := m0_0.ext hE1_3
  have m0_1 := m0_1.ext hE1_3
  have hX := hX.trans hE1_3
  rcases hv1_3 with ⟨hi1_3, rfl⟩ | ⟨hi1_3, rfl⟩
  · skip
    obtain ⟨hk, hkv⟩ := inP_k hi1_3
    rw [← hll] at hk hi1_3
    obtain ⟨hg1, hg2⟩ := ln_gs hEm (k := kP b o) (by omega)
    have hgd := hI.gd hk
    refine xl_pure rfl rfl rfl (pv_assign (v := .int _ _) rfl rfl) ?_
    refine xl_nil ?_
    refine xthen_normal ?_
    refine xc_seq ?_
    refine xc_seq ?_
    refine xc_region ?_
    refine xl_pure rfl rfl rfl (pv_move (v := .int _ _) rfl rfl) ?_
    refine xl_dec rfl rfl rfl (pv_lss rfl rfl rfl) (fun h2_1 => ?_) (fun h2_1 => ?_)
    · first
      | (exfalso; omega)
      |  (skip
          refine xl_nil ?_
          refine xthen_normal ?_
          refine xc_cond_t rfl ?_
          refine xc_seq ?_
          refine xc_region ?_
          refine xl_light rfl rfl rfl (lv_load (v := .agg _) rfl rfl (ld_blk_a m0_0 rfl rfl)) ?_
          refine xl_store rfl rfl (hv_storeA (vs := [.slice _ _ _, .slice _ _ _]) rfl rfl rfl (m0_1) rfl (by rfl) rfl) ?_
          rintro v3_1 H3_1 ⟨hU3_1, hZ3_1⟩
          have m0_0 := m0_0.off hU3_1.but (by first | exact nm0_0_0_1 | exact ⟨m0_0.ne m0_1 rfl⟩ | exact ⟨m0_0.ne m0_1 (by assumption)⟩ | exact ⟨Ne.symm (m0_1.ne m0_0 (by assumption))⟩)
          have hX := hX.upd hU3_1.but gb0_1
          have m0_1 := hU3_1.blk
          refine xl_pure rfl rfl rfl (pv_assign (v := .bool _) rfl rfl) ?_
          refine xl_pure rfl rfl rfl (pv_assign (v := .int _ _) rfl rfl) ?_
          refine xl_nil ?_
          refine xthen_normal ?_
          refine xc_ret ?_
          refine xthen_ret ?_
          refine fin_ret (resv3 rfl (rv_c (ty := 45) rfl (ld_blk_a m0_1 rfl rfl)) (rv_t (v := .bool _) rfl) (rv_t (v := .int _ _) rfl)) ?_
          have e1 : askE S f b o j = 3 := askE3 hi1_3
          obtain ⟨e2, e3⟩ := ask_no3 e1 (by decide)
          rw [e1, e2, e3]
          exact ⟨xa, xc, rfl, hx0.ext hX, hX⟩)
    · first
      | (exfalso; omega)
      |  (skip
          refine xl_nil ?_
          refine xthen_normal ?_
          refine xc_cond_f rfl ?_
          refine xc_skip ?_
          refine xthen_normal ?_
          refine xc_seq ?_
          refine xc_seq ?_
          refine xc_region ?_
          refine xl_pure rfl rfl rfl (pv_move (v := .int _ _) rfl rfl) ?_
          refine xl_dec rfl rfl rfl (pv_lss rfl rfl rfl) (fun h4_1 => ?_) (fun h4_1 => ?_)
          · skip
            refine xl_pure rfl rfl rfl (pv_move (v := .bool _) rfl rfl) ?_
            refine xl_skip rfl rfl rfl ?_
            refine xl_skip rfl rfl rfl ?_
            refine xl_pure rfl rfl rfl (pv_pick_t (v := .bool _) rfl rfl rfl) ?_
            refine xl_nil ?_
            refine xthen_normal ?_
            refine xc_cond_t rfl ?_
            refine xc_seq ?_
            refine xc_region ?_
            refine xl_light rfl rfl rfl (lv_load (v := .agg _) rfl rfl (ld_blk_a m0_0 rfl rfl)) ?_
            refine xl_store rfl rfl (hv_storeA (vs := [.slice _ _ _, .slice _ _ _]) rfl rfl rfl (m0_1) rfl (by rfl) rfl) ?_
            rintro v5_1 H5_1 ⟨hU5_1, hZ5_1⟩
            have m0_0 := m0_0.off hU5_1.but (by first | exact nm0_0_0_1 | exact ⟨m0_0.ne m0_1 rfl⟩ | exact ⟨m0_0.ne m0_1 (by assumption)⟩ | exact ⟨Ne.symm (m0_1.ne m0_0 (by assumption))⟩)
            have hX := hX.upd hU5_1.but gb0_1
            have m0_1 := hU5_1.blk
            refine xl_pure rfl rfl rfl (pv_assign (v := .bool _) rfl rfl) ?_
            refine xl_pure rfl rfl rfl (pv_assign (v := .int _ _) rfl rfl) ?_
            refine xl_nil ?_
            refine xthen_normal ?_
            refine xc_ret ?_
            refine xthen_ret ?_
            refine fin_ret (resv3 rfl (rv_c (ty := 45) rfl (ld_blk_a m0_1 rfl rfl)) (rv_t (v := .bool _) rfl) (rv_t (v := .int _ _) rfl)) ?_
            have e1 : askE S f b o j = 1 := askE1 hi1_3 (fun h => by unfold isJ at h; omega)
            obtain ⟨e2, e3⟩ := ask_no3 e1 (by decide)
            rw [e1, e2, e3]
            exact ⟨xa, xc, rfl, hx0.ext hX, hX⟩
          · skip
            refine xl_pure rfl rfl rfl (pv_move (v := .bool _) rfl rfl) ?_
            refine xl_pure rfl rfl rfl (pv_move (v := .int _ _) rfl rfl) ?_
            refine xl_dec rfl rfl rfl (pv_gtr rfl rfl rfl) (fun h4_4 => ?_) (fun h4_4 => ?_)
            · skip
              refine xl_pure rfl rfl rfl (pv_pick_f (v := .bool _) rfl rfl rfl) ?_
              refine xl_nil ?_
              refine xthen_normal ?_
              refine xc_cond_t rfl ?_
              refine xc_seq ?_
              refine xc_region ?_
              refine xl_light rfl rfl rfl (lv_load (v := .agg _) rfl rfl (ld_blk_a m0_0 rfl rfl)) ?_
              refine xl_store rfl rfl (hv_storeA (vs := [.slice _ _ _, .slice _ _ _]) rfl rfl rfl (m0_1) rfl (by rfl) rfl) ?_
              rintro v5_1 H5_1 ⟨hU5_1, hZ5_1⟩
              have m0_0 := m0_0.off hU5_1.but (by first | exact nm0_0_0_1 | exact ⟨m0_0.ne m0_1 rfl⟩ | exact ⟨m0_0.ne m0_1 (by assumption)⟩ | exact ⟨Ne.symm (m0_1.ne m0_0 (by assumption))⟩)
              have hX := hX.upd hU5_1.but gb0_1
              have m0_1 := hU5_1.blk
              refine xl_pure rfl rfl rfl (pv_assign (v := .bool _) rfl rfl) ?_
              refine xl_pure rfl rfl rfl (pv_assign (v := .int _ _) rfl rfl) ?_
              refine xl_nil ?_
              refine xthen_normal ?_
              refine xc_ret ?_
              refine xthen_ret ?_
              refine fin_ret (resv3 rfl (rv_c (ty := 45) rfl (ld_blk_a m0_1 rfl rfl)) (rv_t (v := .bool _) rfl) (rv_t (v := .int _ _) rfl)) ?_
              have e1 : askE S f b o j = 1 := askE1 hi1_3 (fun h => by unfold isJ at h; omega)
              obtain ⟨e2, e3⟩ := ask_no3 e1 (by decide)
              rw [e1, e2, e3]
              exact ⟨xa, xc, rfl, hx0.ext hX, hX⟩
            · skip
              refine xl_pure rfl rfl rfl (pv_pick_f (v := .bool _) rfl rfl rfl) ?_
              refine xl_nil ?_
              refine xthen_normal ?_
              refine xc_cond_f rfl ?_
              refine xc_skip ?_
              refine xthen_normal ?_
              refine xc_seq ?_
              refine xc_seq ?_
              refine xc_region ?_
              refine xl_light rfl rfl rfl (lv_load (v := .agg _) rfl rfl (ld_blk_a m0_0 rfl rfl)) ?_
              refine xl_pure rfl rfl rfl (pv_move (v := .int _ _) rfl rfl) ?_
              refine xl_heavy rfl rfl rfl (hv_call (g := 44) rfl rfl (dfind (la := la) (lc := lc) (l := l) (hx0.ext hX) hI j) rfl) ?_
              rintro v6_2 H6_2 ⟨hv6_2, hE6_2⟩
              have m0_0 := m0_0.ext hE6_2
              have m0_1 := m0_1.ext hE6_2
              have hX := hX.trans hE6_2
              rcases hof : f j with _ | r
              · skip
                rw [hof] at hv6_2
                replace hv6_2 : v6_2 = .int .i64 (-1) := hv6_2
                subst hv6_2
                refine xl_dec rfl rfl rfl (pv_geq rfl rfl rfl) (fun h6_3 => ?_) (fun h6_3 => ?_)
                · exact absurd h6_3 (by decide)
                · first
                  | (exfalso; omega)
                  |  (skip
                      refine xl_nil ?_
                      refine xthen_normal ?_
                      refine xc_cond_f rfl ?_
                      refine xc_skip ?_
                      refine xthen_normal ?_
                      refine xc_seq ?_
                      have hk2 : kP b o < E.length := by omega
                      have hno := hI.none hof hk
                      have hw8 := hgd.w8
                      have hr8 := hgd.r8
                      have hs0 := hgd.s0
                      have hs8 := hgd.s8
                      rw [← hg1] at hr8
                      rw [← hg2] at hw8
                      refine xc_region ?_
                      refine xl_pure rfl rfl rfl (pv_fieldAddr rfl rfl) ?_
                      refine xl_light rfl rfl rfl (lv_load (v := .slice _ _ _) rfl rfl (ld_blk m0_0 rfl)) ?_
                      refine xl_pure rfl rfl rfl (pv_move (v := .int _ _) rfl rfl) ?_
                      refine xl_pure rfl rfl rfl (pv_indexAddr_l rfl (sl_eq (hdx (by omega)).1) rfl (by omega)) ?_
                      refine xl_light rfl rfl rfl (lv_load (v := .agg _) rfl rfl (by exact ldLs (k := kP b o) ((hdx (by omega)).2.ext hX) hk2)) ?_
                      refine xl_heavy rfl rfl rfl (hv_alloc rfl rfl) ?_
                      rintro v8_5 H8_5 ⟨b8_5, rfl, hN8_5⟩
                      have gb8_5 := hX.fresh hN8_5
                      have nm0_0_8_5 := m0_0.apart hN8_5
                      have nm0_1_8_5 := m0_1.apart hN8_5
                      have m0_0 := m0_0.ext hN8_5.ext
                      have m0_1 := m0_1.ext hN8_5.ext
                      have hX := hX.trans hN8_5.ext
                      have m8_5 := hN8_5.blk
                      refine xl_store rfl rfl (hv_storeA (vs := [.slice _ _ _, .slice _ _ _]) rfl rfl rfl (m8_5) rfl (by rfl) rfl) ?_
                      rintro v8_6 H8_6 ⟨hU8_6, hZ8_6⟩
                      have m0_0 := m0_0.off hU8_6.but (by first | exact nm0_0_8_5 | exact ⟨m0_0.ne m8_5 rfl⟩ | exact ⟨m0_0.ne m8_5 (by assumption)⟩ | exact ⟨Ne.symm (m8_5.ne m0_0 (by assumption))⟩)
                      have m0_1 := m0_1.off hU8_6.but (by first | exact nm0_1_8_5 | exact ⟨m0_1.ne m8_5 rfl⟩ | exact ⟨m0_1.ne m8_5 (by assumption)⟩ | exact ⟨Ne.symm (m8_5.ne m0_1 (by assumption))⟩)
                      have hX := hX.upd hU8_6.but gb8_5
                      have m8_5 := hU8_6.blk
                      refine xl_nil ?_
                      refine xthen_normal ?_
                      refine xc_seq ?_
                      refine xc_seq ?_
                      refine xp_start rfl (by repeat (first | with_reducible exact np_fin | with_reducible exact np_ret | with_reducible refine np_then ?_ | with_reducible refine np_block ?_)) (by kernel_rfl) ?_
                      refine xp_pure (i := 0) rfl (by kernel_rfl) (by kernel_rfl) rfl rfl rfl (pv_fieldAddr rfl rfl) ?_
                      refine xp_light (i := 1) rfl (by kernel_rfl) (by kernel_rfl) rfl rfl rfl (lv_load (v := .slice _ _ _) rfl rfl (ld_blk m8_5 rfl)) ?_
                      refine xp_pure (i := 2) rfl (by kernel_rfl) (by kernel_rfl) rfl rfl rfl (pv_len_l rfl rfl) ?_
                      refine xp_light (i := 3) rfl (by kernel_rfl) (by kernel_rfl) rfl rfl rfl (lv_load (v := .agg _) rfl rfl (ld_blk_a m0_0 rfl rfl)) ?_
                      refine xp_pure (i := 4) rfl (by kernel_rfl) (by kernel_rfl) rfl rfl rfl (pv_move (v := .int _ _) rfl rfl) ?_
                      refine xp_heavy (i := 5) (by kernel_rfl) ?_
                      refine xph_val rfl rfl rfl rfl (hv_call (g := 38) rfl rfl (dslots (hs.ext hX) (show kP b o < 2 * l.length by omega) (show l.length ≤ 8 by omega)) rfl) (pd (by kernel_rfl) (pk (by kernel_rfl) pn)) ?_
                      rintro v9_5 H9_5 ⟨hv9_5, hE9_5⟩
                      have m0_0 := m0_0.ext hE9_5
                      have m0_1 := m0_1.ext hE9_5
                      have m8_5 := m8_5.ext hE9_5
                      have hX := hX.trans hE9_5
                      rw [sls_gs hN] at hv9_5
                      subst hv9_5
                      refine ⟨(okc (lv_load (v := .slice _ _ _) rfl rfl (ld_blk m8_5 rfl)) okn), ?_⟩
                      refine xp_dec (i := 6) rfl (by kernel_rfl) (by kernel_rfl) rfl rfl rfl (pv_lss rfl rfl rfl) (fun h9_6 => ?_) (fun h9_6 => ?_)
                      · skip
                        refine xp_done (by kernel_rfl) ?_
                        refine xthen_normal ?_
                        refine xc_cond_t rfl ?_
                        refine xc_seq ?_
                        refine xp_start rfl (by repeat (first | with_reducible exact np_fin | with_reducible exact np_ret | with_reducible refine np_then ?_ | with_reducible refine np_block ?_)) (by kernel_rfl) ?_
                        refine xp_light (i := 0) rfl (by kernel_rfl) (by kernel_rfl) rfl rfl rfl (lv_load (v := .agg _) rfl rfl (ld_blk_a m0_0 rfl rfl)) ?_
                        refine xp_pure (i := 1) rfl (by kernel_rfl) (by kernel_rfl) rfl rfl rfl (pv_move (v := .int _ _) rfl rfl) ?_
                        refine xp_pure (i := 2) rfl (by kernel_rfl) (by kernel_rfl) rfl rfl rfl (pv_fieldAddr rfl rfl) ?_
                        refine xp_light (i := 3) rfl (by kernel_rfl) (by kernel_rfl) rfl rfl rfl (lv_load (v := .slice _ _ _) rfl rfl (ld_blk m8_5 rfl)) ?_
                        refine xp_pure (i := 4) rfl (by kernel_rfl) (by kernel_rfl) rfl rfl rfl (pv_move (v := .int _ _) rfl rfl) ?_
                        refine xp_pure (i := 6) rfl (by kernel_rfl) (by kernel_rfl) rfl rfl rfl (pv_fieldAddr rfl rfl) ?_
                        refine xp_light (i := 7) rfl (by kernel_rfl) (by kernel_rfl) rfl rfl rfl (lv_load (v := .slice _ _ _) rfl rfl (ld_blk m8_5 rfl)) ?_
                        refine xp_heavy (i := 5) (by kernel_rfl) ?_
                        refine xph_val rfl rfl rfl rfl (hv_call (g := 46) rfl rfl (dput (l := (gE E (kP b o)).rn) (((hE.get hk2).1.ints).ext hX) (by rw [hg1]; exact hgd.asc) (x := j) (by rw [hg1]; exact hno.1) (by have := hgd.r8; rw [hg1]; omega) hX.size) rfl) (pk (by kernel_rfl) (pd (by kernel_rfl) (pk (by kernel_rfl) pn))) ?_
                        rintro v10_5 H10_5 ⟨a10_5, c10_5, rfl, hO10_5, hE10_5⟩
                        have m0_0 := m0_0.ext hE10_5
                        have m0_1 := m0_1.ext hE10_5
                        have m8_5 := m8_5.ext hE10_5
                        have hX := hX.trans hE10_5
                        refine ⟨(okc (lv_load (v := .slice _ _ _) rfl rfl (ld_blk m8_5 rfl)) (okc (lv_load (v := .agg _) rfl rfl (ld_blk_a m0_0 rfl rfl)) okn)), ?_⟩
                        refine xp_pure (i := 8) rfl (by kernel_rfl) (by kernel_rfl) rfl rfl rfl (pv_build_s (cs := [.slice _ _ _, .slice _ _ _]) rfl rfl rfl) ?_
                        refine xp_heavy (i := 9) (by kernel_rfl) ?_
                        refine xph_val rfl rfl rfl rfl (hv_call (g := 45) rfl rfl (dwithS (la := la) (lc := lc) (l := l) hEl (hE.ext hX) hEc (by omega) hk2 (own_IX hO10_5 hG) ((hE.get hk2).2.ext hX) (hGX hX)) rfl) (pk (by kernel_rfl) (pd (by kernel_rfl) pn)) ?_
                        rintro v10_9 H10_9 ⟨a10_9, c10_9, rfl, hL10_9, hE10_9⟩
                        have m0_0 := m0_0.ext hE10_9
                        have m0_1 := m0_1.ext hE10_9
                        have m8_5 := m8_5.ext hE10_9
                        have hO10_5 := hO10_5.ext hE10_9
                        have hX := hX.trans hE10_9
                        refine ⟨(okc (lv_load (v := .slice _ _ _) rfl rfl (ld_blk m8_5 rfl)) okn), ?_⟩
                        refine xp_heavy (i := 10) (by kernel_rfl) ?_
                        refine xph_store rfl rfl rfl (hv_storeA (vs := [.slice _ _ _, .slice _ _ _]) rfl rfl rfl (m0_1) rfl (by rfl) rfl) (pd (by kernel_rfl) pn) ?_
                        rintro v10_10 H10_10 ⟨hU10_10, hZ10_10⟩
                        have m0_0 := m0_0.off hU10_10.but (by first | exact nm0_0_0_1 | exact ⟨m0_0.ne m0_1 rfl⟩ | exact ⟨m0_0.ne m0_1 (by assumption)⟩ | exact ⟨Ne.symm (m0_1.ne m0_0 (by assumption))⟩)
                        have m8_5 := m8_5.off hU10_10.but (by first | exact nm0_1_8_5.symm | exact ⟨m8_5.ne m0_1 rfl⟩ | exact ⟨m8_5.ne m0_1 (by assumption)⟩ | exact ⟨Ne.symm (m0_1.ne m8_5 (by assumption))⟩)
                        have hO10_5 := hO10_5.offU m0_1 hU10_10.but (.inl rfl)
                        have hL10_9 := hL10_9.offT m0_1 hU10_10.but (by first | rfl | assumption)
                        have hX := hX.upd hU10_10.but gb0_1
                        have m0_1 := hU10_10.blk
                        refine ⟨okn, ?_⟩
                        refine xp_pure (i := 11) rfl (by kernel_rfl) (by kernel_rfl) rfl rfl rfl (pv_assign (v := .bool _) rfl rfl) ?_
                        refine xp_pure (i := 12) rfl (by kernel_rfl) (by kernel_rfl) rfl rfl rfl (pv_assign (v := .int _ _) rfl rfl) ?_
                        refine xp_done (by kernel_rfl) ?_
                        refine xthen_normal ?_
                        refine xc_ret ?_
                        refine xthen_ret ?_
                        refine fin_ret (resv3 rfl (rv_c (ty := 45) rfl (ld_blk_a m0_1 rfl rfl)) (rv_t (v := .bool _) rfl) (rv_t (v := .int _ _) rfl)) ?_
                        obtain ⟨e1, e2, e3⟩ := ask_run3 hi1_3 ⟨by omega, by omega⟩ hof (by rw [← hg1]; exact h9_6)
                        rw [e1, e2, e3]
                        rw [hEm, hg1, hg2] at hL10_9
                        exact ⟨_, _, rfl, hL10_9, hX⟩
                      · skip
                        refine xp_done (by kernel_rfl) ?_
                        refine xthen_normal ?_
                        refine xc_cond_f rfl ?_
                        refine xc_skip ?_
                        refine xthen_normal ?_
                        refine xc_seq ?_
                        refine xc_seq ?_
                        refine xc_region ?_
                        refine xl_light rfl rfl rfl (lv_load (v := .agg _) rfl rfl (ld_blk_a m0_0 rfl rfl)) ?_
                        refine xl_pure rfl rfl rfl (pv_move (v := .int _ _) rfl rfl) ?_
                        refine xl_heavy rfl rfl rfl (hv_call (g := 38) rfl rfl (dslots (hs.ext hX) (show kP b o < 2 * l.length by omega) (show l.length ≤ 8 by omega)) rfl) ?_
                        rintro v11_2 H11_2 ⟨hv11_2, hE11_2⟩
                        have m0_0 := m0_0.ext hE11_2
                        have m0_1 := m0_1.ext hE11_2
                        have m8_5 := m8_5.ext hE11_2
                        have hX := hX.trans hE11_2
                        rw [sls_gs hN] at hv11_2
                        subst hv11_2
                        refine xl_dec rfl rfl rfl (pv_eql rfl rfl rfl) (fun h11_3 => ?_) (fun h11_3 => ?_)
                        · skip
                          refine xl_pure rfl rfl rfl (pv_move (v := .bool _) rfl rfl) ?_
                          refine xl_skip rfl rfl rfl ?_
                          refine xl_skip rfl rfl rfl ?_
                          refine xl_skip rfl rfl rfl ?_
                          refine xl_skip rfl rfl rfl ?_
                          refine xl_pure rfl rfl rfl (pv_pick_t (v := .bool _) rfl rfl rfl) ?_
                          refine xl_nil ?_
                          refine xthen_normal ?_
                          refine xc_cond_t rfl ?_
                          refine xc_seq ?_
                          refine xc_region ?_
                          refine xl_light rfl rfl rfl (lv_load (v := .agg _) rfl rfl (ld_blk_a m0_0 rfl rfl)) ?_
                          refine xl_store rfl rfl (hv_storeA (vs := [.slice _ _ _, .slice _ _ _]) rfl rfl rfl (m0_1) rfl (by rfl) rfl) ?_
                          rintro v12_1 H12_1 ⟨hU12_1, hZ12_1⟩
                          have m0_0 := m0_0.off hU12_1.but (by first | exact nm0_0_0_1 | exact ⟨m0_0.ne m0_1 rfl⟩ | exact ⟨m0_0.ne m0_1 (by assumption)⟩ | exact ⟨Ne.symm (m0_1.ne m0_0 (by assumption))⟩)
                          have m8_5 := m8_5.off hU12_1.but (by first | exact nm0_1_8_5.symm | exact ⟨m8_5.ne m0_1 rfl⟩ | exact ⟨m8_5.ne m0_1 (by assumption)⟩ | exact ⟨Ne.symm (m0_1.ne m8_5 (by assumption))⟩)
                          have hX := hX.upd hU12_1.but gb0_1
                          have m0_1 := hU12_1.blk
                          refine xl_pure rfl rfl rfl (pv_assign (v := .bool _) rfl rfl) ?_
                          refine xl_pure rfl rfl rfl (pv_assign (v := .int _ _) rfl rfl) ?_
                          refine xl_nil ?_
                          refine xthen_normal ?_
                          refine xc_ret ?_
                          refine xthen_ret ?_
                          refine fin_ret (resv3 rfl (rv_c (ty := 45) rfl (ld_blk_a m0_1 rfl rfl)) (rv_t (v := .bool _) rfl) (rv_t (v := .int _ _) rfl)) ?_
                          have e1 : askE S f b o j = 10 := askE10 hi1_3 ⟨by omega, by omega⟩ (by rw [hof]; decide) (by rw [← hg1]; exact h9_6) (by first | exact .inl h11_3 | exact .inr (by rw [← hg2]; omega))
                          obtain ⟨e2, e3⟩ := ask_no3 e1 (by decide)
                          rw [e1, e2, e3]
                          exact ⟨xa, xc, rfl, hx0.ext hX, hX⟩
                        · skip
                          refine xl_pure rfl rfl rfl (pv_move (v := .bool _) rfl rfl) ?_
                          refine xl_pure rfl rfl rfl (pv_fieldAddr rfl rfl) ?_
                          refine xl_light rfl rfl rfl (lv_load (v := .slice _ _ _) rfl rfl (ld_blk m8_5 rfl)) ?_
                          refine xl_pure rfl rfl rfl (pv_len_l rfl rfl) ?_
                          refine xl_dec rfl rfl rfl (pv_geq rfl rfl rfl) (fun h11_8 => ?_) (fun h11_8 => ?_)
                          · skip
                            refine xl_pure rfl rfl rfl (pv_pick_f (v := .bool _) rfl rfl rfl) ?_
                            refine xl_nil ?_
                            refine xthen_normal ?_
                            refine xc_cond_t rfl ?_
                            refine xc_seq ?_
                            refine xc_region ?_
                            refine xl_light rfl rfl rfl (lv_load (v := .agg _) rfl rfl (ld_blk_a m0_0 rfl rfl)) ?_
                            refine xl_store rfl rfl (hv_storeA (vs := [.slice _ _ _, .slice _ _ _]) rfl rfl rfl (m0_1) rfl (by rfl) rfl) ?_
                            rintro v12_1 H12_1 ⟨hU12_1, hZ12_1⟩
                            have m0_0 := m0_0.off hU12_1.but (by first | exact nm0_0_0_1 | exact ⟨m0_0.ne m0_1 rfl⟩ | exact ⟨m0_0.ne m0_1 (by assumption)⟩ | exact ⟨Ne.symm (m0_1.ne m0_0 (by assumption))⟩)
                            have m8_5 := m8_5.off hU12_1.but (by first | exact nm0_1_8_5.symm | exact ⟨m8_5.ne m0_1 rfl⟩ | exact ⟨m8_5.ne m0_1 (by assumption)⟩ | exact ⟨Ne.symm (m0_1.ne m8_5 (by assumption))⟩)
                            have hX := hX.upd hU12_1.but gb0_1
                            have m0_1 := hU12_1.blk
                            refine xl_pure rfl rfl rfl (pv_assign (v := .bool _) rfl rfl) ?_
                            refine xl_pure rfl rfl rfl (pv_assign (v := .int _ _) rfl rfl) ?_
                            refine xl_nil ?_
                            refine xthen_normal ?_
                            refine xc_ret ?_
                            refine xthen_ret ?_
                            refine fin_ret (resv3 rfl (rv_c (ty := 45) rfl (ld_blk_a m0_1 rfl rfl)) (rv_t (v := .bool _) rfl) (rv_t (v := .int _ _) rfl)) ?_
                            have e1 : askE S f b o j = 10 := askE10 hi1_3 ⟨by omega, by omega⟩ (by rw [hof]; decide) (by rw [← hg1]; exact h9_6) (by first | exact .inl h11_3 | exact .inr (by rw [← hg2]; omega))
                            obtain ⟨e2, e3⟩ := ask_no3 e1 (by decide)
                            rw [e1, e2, e3]
                            exact ⟨xa, xc, rfl, hx0.ext hX, hX⟩
                          · skip
                            refine xl_pure rfl rfl rfl (pv_pick_f (v := .bool _) rfl rfl rfl) ?_
                            refine xl_nil ?_
                            refine xthen_normal ?_
                            refine xc_cond_f rfl ?_
                            refine xc_skip ?_
                            refine xthen_normal ?_
                            refine xc_seq ?_
                            refine xc_region ?_
                            refine xl_pure rfl rfl rfl (pv_assign (v := .slice _ _ _) rfl rfl) ?_
                            refine xl_nil ?_
                            refine xthen_normal ?_
                            refine xc_seq ?_
                            refine xc_region ?_
                            refine xl_pure rfl rfl rfl (pv_move (v := .slice _ _ _) rfl rfl) ?_
                            refine xl_pure rfl rfl rfl (pv_fieldAddr rfl rfl) ?_
                            refine xl_light rfl rfl rfl (lv_load (v := .slice _ _ _) rfl rfl (ld_blk m8_5 rfl)) ?_
                            refine xl_heavy rfl rfl rfl (hv_append_cells (size := 1) (news := ints (gE E (kP b o)).wt) rfl rfl (Own.nil _ H.size 3 1) rfl (ints_len1 _) (ints_src (((hE.get hk2).2.ints).ext hX)) (ints_one1 _) rfl (by decide) (by omega) (by omega) hX.size) ?_
                            rintro v14_3 H14_3 ⟨hO14_3, hG14_3⟩
                            have m0_0 := m0_0.offT (Own.nil _ H.size 3 1) hG14_3 rfl
                            have m0_1 := m0_1.offT (Own.nil _ H.size 3 1) hG14_3 rfl
                            have m8_5 := m8_5.offT (Own.nil _ H.size 3 1) hG14_3 rfl
                            have hX := Own.grown (Own.nil _ H.size 3 1) hX hG14_3 (Nat.le_refl _)
                            obtain ⟨a14_3, c14_3, rfl⟩ := hO14_3.val
                            refine xl_pure rfl rfl rfl (pv_assign (v := .slice _ _ _) rfl rfl) ?_
                            refine xl_nil ?_
                            refine xthen_normal ?_
                            refine xc_seq ?_
                            refine xc_region ?_
                            refine xl_pure rfl rfl rfl (pv_move (v := .slice _ _ _) rfl rfl) ?_
                            refine xl_pure rfl rfl rfl (pv_move (v := .int _ _) rfl rfl) ?_
                            refine xl_heavy rfl rfl rfl (hv_buildSlice (cs := [.int _ _]) rfl rfl rfl rfl rfl) ?_
                            rintro v15_2 H15_2 ⟨b15_2, rfl, hN15_2⟩
                            have gb15_2 := hX.fresh hN15_2
                            have nm0_0_15_2 := m0_0.apart hN15_2
                            have nm0_1_15_2 := m0_1.apart hN15_2
                            have nm8_5_15_2 := m8_5.apart hN15_2
                            have pm15_2_hO14_3 := hO14_3.apartN hN15_2
                            have m0_0 := m0_0.ext hN15_2.ext
                            have m0_1 := m0_1.ext hN15_2.ext
                            have m8_5 := m8_5.ext hN15_2.ext
                            have hO14_3 := hO14_3.ext hN15_2.ext
                            have hX := hX.trans hN15_2.ext
                            have m15_2 := hN15_2.blk
                            refine xl_heavy rfl rfl rfl (hv_append rfl rfl hO14_3 rfl (m15_2.row) rfl (by simp [Value.oneCell']) rfl (by decide) (by omega) (by omega) hX.size) ?_
                            rintro v15_3 H15_3 ⟨hO15_3, hG15_3, -, hB15_3⟩
                            have m0_0 := m0_0.offT hO14_3 hG15_3 rfl
                            have m0_1 := m0_1.offT hO14_3 hG15_3 rfl
                            have m8_5 := m8_5.offT hO14_3 hG15_3 rfl
                            have hX := hO14_3.grown hX hG15_3 (Nat.le_refl _)
                            obtain ⟨a15_3, c15_3, rfl⟩ := hO15_3.val
                            refine xl_pure rfl rfl rfl (pv_assign (v := .slice _ _ _) rfl rfl) ?_
                            refine xl_nil ?_
                            refine xthen_normal ?_
                            refine xc_seq ?_
                            refine xc_region ?_
                            refine xl_light rfl rfl rfl (lv_load (v := .agg _) rfl rfl (ld_blk_a m0_0 rfl rfl)) ?_
                            refine xl_pure rfl rfl rfl (pv_move (v := .int _ _) rfl rfl) ?_
                            refine xl_pure rfl rfl rfl (pv_fieldAddr rfl rfl) ?_
                            refine xl_light rfl rfl rfl (lv_load (v := .slice _ _ _) rfl rfl (ld_blk m8_5 rfl)) ?_
                            refine xl_pure rfl rfl rfl (pv_move (v := .slice a15_3 ((gE E (kP b o)).wt ++ [j]).length c15_3) rfl (slv (show 0 + (gE E (kP b o)).wt.length + 1 = ((gE E (kP b o)).wt ++ [j]).length by rw [List.length_append, Nat.zero_add]; rfl))) ?_
                            refine xl_pure rfl rfl rfl (pv_build_s (cs := [.slice _ _ _, .slice _ _ _]) rfl rfl rfl) ?_
                            refine xl_heavy rfl rfl rfl (hv_call (g := 45) rfl rfl (dwithS (la := la) (lc := lc) (l := l) hEl (hE.ext hX) hEc (by omega) hk2 ((hE.get hk2).1.ext hX) (own_IX (show Own _ H.size 3 1 (.slice a15_3 (0 + (gE E (kP b o)).wt.length + 1) c15_3) (0 + (gE E (kP b o)).wt.length + 1) (ints ((gE E (kP b o)).wt ++ [j])) by simpa [ints] using hO15_3) hG) (hGX hX)) rfl) ?_
                            rintro v16_6 H16_6 ⟨a16_6, c16_6, rfl, hL16_6, hE16_6⟩
                            have m0_0 := m0_0.ext hE16_6
                            have m0_1 := m0_1.ext hE16_6
                            have m8_5 := m8_5.ext hE16_6
                            have hO15_3 := hO15_3.ext hE16_6
                            have hX := hX.trans hE16_6
                            refine xl_store rfl rfl (hv_storeA (vs := [.slice _ _ _, .slice _ _ _]) rfl rfl rfl (m0_1) rfl (by rfl) rfl) ?_
                            rintro v16_7 H16_7 ⟨hU16_7, hZ16_7⟩
                            have m0_0 := m0_0.off hU16_7.but (by first | exact nm0_0_0_1 | exact ⟨m0_0.ne m0_1 rfl⟩ | exact ⟨m0_0.ne m0_1 (by assumption)⟩ | exact ⟨Ne.symm (m0_1.ne m0_0 (by assumption))⟩)
                            have m8_5 := m8_5.off hU16_7.but (by first | exact nm0_1_8_5.symm | exact ⟨m8_5.ne m0_1 rfl⟩ | exact ⟨m8_5.ne m0_1 (by assumption)⟩ | exact ⟨Ne.symm (m0_1.ne m8_5 (by assumption))⟩)
                            have hO15_3 := hO15_3.offU m0_1 hU16_7.but (.inl rfl)
                            have hL16_6 := hL16_6.offT m0_1 hU16_7.but (by first | rfl | assumption)
                            have hX := hX.upd hU16_7.but gb0_1
                            have m0_1 := hU16_7.blk
                            refine xl_pure rfl rfl rfl (pv_assign (v := .bool _) rfl rfl) ?_
                            refine xl_pure rfl rfl rfl (pv_assign (v := .int _ _) rfl rfl) ?_
                            refine xl_nil ?_
                            refine xthen_normal ?_
                            refine xc_ret ?_
                            refine fin_ret (resv3 rfl (rv_c (ty := 45) rfl (ld_blk_a m0_1 rfl rfl)) (rv_t (v := .bool _) rfl) (rv_t (v := .int _ _) rfl)) ?_
                            obtain ⟨e1, e2, e3⟩ := ask_wait3 hi1_3 ⟨by omega, by omega⟩ hof (by rw [← hg1]; exact h9_6) (fun h => h.elim h11_3 (fun h => h11_8 (by rw [← hg2] at h; omega)))
                            rw [e1, e2, e3]
                            rw [hEm, hg1, hg2] at hL16_6
                            exact ⟨_, _, rfl, hL16_6, hX⟩)
              · skip
                rw [hof] at hv6_2
                replace hv6_2 : v6_2 = .int .i64 r := hv6_2
                subst hv6_2
                obtain ⟨n, rfl, hnl⟩ := hI.fm' j _ hof
                refine xl_dec rfl rfl rfl (pv_geq rfl rfl rfl) (fun h6_3 => ?_) (fun h6_3 => ?_)
                · first
                  | (exfalso; omega)
                  |  (skip
                      refine xl_nil ?_
                      refine xthen_normal ?_
                      refine xc_cond_t rfl ?_
                      refine xc_seq ?_
                      refine xc_region ?_
                      refine xl_light rfl rfl rfl (lv_load (v := .agg _) rfl rfl (ld_blk_a m0_0 rfl rfl)) ?_
                      refine xl_store rfl rfl (hv_storeA (vs := [.slice _ _ _, .slice _ _ _]) rfl rfl rfl (m0_1) rfl (by rfl) rfl) ?_
                      rintro v7_1 H7_1 ⟨hU7_1, hZ7_1⟩
                      have m0_0 := m0_0.off hU7_1.but (by first | exact nm0_0_0_1 | exact ⟨m0_0.ne m0_1 rfl⟩ | exact ⟨m0_0.ne m0_1 (by assumption)⟩ | exact ⟨Ne.symm (m0_1.ne m0_0 (by assumption))⟩)
                      have hX := hX.upd hU7_1.but gb0_1
                      have m0_1 := hU7_1.blk
                      refine xl_pure rfl rfl rfl (pv_assign (v := .bool _) rfl rfl) ?_
                      refine xl_pure rfl rfl rfl (pv_assign (v := .int _ _) rfl rfl) ?_
                      refine xl_nil ?_
                      refine xthen_normal ?_
                      refine xc_ret ?_
                      refine xthen_ret ?_
                      refine fin_ret (resv3 rfl (rv_c (ty := 45) rfl (ld_blk_a m0_1 rfl rfl)) (rv_t (v := .bool _) rfl) (rv_t (v := .int _ _) rfl)) ?_
                      have e1 : askE S f b o j = 9 := askE9 hi1_3 ⟨by omega, by omega⟩ (by rw [hof]; rfl)
                      obtain ⟨e2, e3⟩ := ask_no3 e1 (by decide)
                      rw [e1, e2, e3]
                      exact ⟨xa, xc, rfl, hx0.ext hX, hX⟩)
                · first
                  | (exfalso; omega)
                  |  (skip
                      refine xl_nil ?_
                      refine xthen_normal ?_
                      refine xc_cond_f rfl ?_
                      refine xc_skip ?_
                      refine xthen_normal ?_
                      refine xc_seq ?_
                      have hk2 : kP b o < E.length := by omega
                      have hno := hI.none hof hk
                      have hw8 := hgd.w8
                      have hr8 := hgd.r8
                      have hs0 := hgd.s0
                      have hs8 := hgd.s8
                      rw [← hg1] at hr8
                      rw [← hg2] at hw8
                      refine xc_region ?_
                      refine xl_pure rfl rfl rfl (pv_fieldAddr rfl rfl) ?_
                      refine xl_light rfl rfl rfl (lv_load (v := .slice _ _ _) rfl rfl (ld_blk m0_0 rfl)) ?_
                      refine xl_pure rfl rfl rfl (pv_move (v := .int _ _) rfl rfl) ?_
                      refine xl_pure rfl rfl rfl (pv_indexAddr_l rfl (sl_eq (hdx (by omega)).1) rfl (by omega)) ?_
                      refine xl_light rfl rfl rfl (lv_load (v := .agg _) rfl rfl (by exact ldLs (k := kP b o) ((hdx (by omega)).2.ext hX) hk2)) ?_
                      refine xl_heavy rfl rfl rfl (hv_alloc rfl rfl) ?_
                      rintro v8_5 H8_5 ⟨b8_5, rfl, hN8_5⟩
                      have gb8_5 := hX.fresh hN8_5
                      have nm0_0_8_5 := m0_0.apart hN8_5
                      have nm0_1_8_5 := m0_1.apart hN8_5
                      have m0_0 := m0_0.ext hN8_5.ext
                      have m0_1 := m0_1.ext hN8_5.ext
                      have hX := hX.trans hN8_5.ext
                      have m8_5 := hN8_5.blk
                      refine xl_store rfl rfl (hv_storeA (vs := [.slice _ _ _, .slice _ _ _]) rfl rfl rfl (m8_5) rfl (by rfl) rfl) ?_
                      rintro v8_6 H8_6 ⟨hU8_6, hZ8_6⟩
                      have m0_0 := m0_0.off hU8_6.but (by first | exact nm0_0_8_5 | exact ⟨m0_0.ne m8_5 rfl⟩ | exact ⟨m0_0.ne m8_5 (by assumption)⟩ | exact ⟨Ne.symm (m8_5.ne m0_0 (by assumption))⟩)
                      have m0_1 := m0_1.off hU8_6.but (by first | exact nm0_1_8_5 | exact ⟨m0_1.ne m8_5 rfl⟩ | exact ⟨m0_1.ne m8_5 (by assumption)⟩ | exact ⟨Ne.symm (m8_5.ne m0_1 (by assumption))⟩)
                      have hX := hX.upd hU8_6.but gb8_5
                      have m8_5 := hU8_6.blk
                      refine xl_nil ?_
                      refine xthen_normal ?_
                      refine xc_seq ?_
                      refine xc_seq ?_
                      refine xp_start rfl (by repeat (first | with_reducible exact np_fin | with_reducible exact np_ret | with_reducible refine np_then ?_ | with_reducible refine np_block ?_)) (by kernel_rfl) ?_
                      refine xp_pure (i := 0) rfl (by kernel_rfl) (by kernel_rfl) rfl rfl rfl (pv_fieldAddr rfl rfl) ?_
                      refine xp_light (i := 1) rfl (by kernel_rfl) (by kernel_rfl) rfl rfl rfl (lv_load (v := .slice _ _ _) rfl rfl (ld_blk m8_5 rfl)) ?_
                      refine xp_pure (i := 2) rfl (by kernel_rfl) (by kernel_rfl) rfl rfl rfl (pv_len_l rfl rfl) ?_
                      refine xp_light (i := 3) rfl (by kernel_rfl) (by kernel_rfl) rfl rfl rfl (lv_load (v := .agg _) rfl rfl (ld_blk_a m0_0 rfl rfl)) ?_
                      refine xp_pure (i := 4) rfl (by kernel_rfl) (by kernel_rfl) rfl rfl rfl (pv_move (v := .int _ _) rfl rfl) ?_
                      refine xp_heavy (i := 5) (by kernel_rfl) ?_
                      refine xph_val rfl rfl rfl rfl (hv_call (g := 38) rfl rfl (dslots (hs.ext hX) (show kP b o < 2 * l.length by omega) (show l.length ≤ 8 by omega)) rfl) (pd (by kernel_rfl) (pk (by kernel_rfl) pn)) ?_
                      rintro v9_5 H9_5 ⟨hv9_5, hE9_5⟩
                      have m0_0 := m0_0.ext hE9_5
                      have m0_1 := m0_1.ext hE9_5
                      have m8_5 := m8_5.ext hE9_5
                      have hX := hX.trans hE9_5
                      rw [sls_gs hN] at hv9_5
                      subst hv9_5
                      refine ⟨(okc (lv_load (v := .slice _ _ _) rfl rfl (ld_blk m8_5 rfl)) okn), ?_⟩
                      refine xp_dec (i := 6) rfl (by kernel_rfl) (by kernel_rfl) rfl rfl rfl (pv_lss rfl rfl rfl) (fun h9_6 => ?_) (fun h9_6 => ?_)
                      · skip
                        refine xp_done (by kernel_rfl) ?_
                        refine xthen_normal ?_
                        refine xc_cond_t rfl ?_
                        refine xc_seq ?_
                        refine xp_start rfl (by repeat (first | with_reducible exact np_fin | with_reducible exact np_ret | with_reducible refine np_then ?_ | with_reducible refine np_block ?_)) (by kernel_rfl) ?_
                        refine xp_light (i := 0) rfl (by kernel_rfl) (by kernel_rfl) rfl rfl rfl (lv_load (v := .agg _) rfl rfl (ld_blk_a m0_0 rfl rfl)) ?_
                        refine xp_pure (i := 1) rfl (by kernel_rfl) (by kernel_rfl) rfl rfl rfl (pv_move (v := .int _ _) rfl rfl) ?_
                        refine xp_pure (i := 2) rfl (by kernel_rfl) (by kernel_rfl) rfl rfl rfl (pv_fieldAddr rfl rfl) ?_
                        refine xp_light (i := 3) rfl (by kernel_rfl) (by kernel_rfl) rfl rfl rfl (lv_load (v := .slice _ _ _) rfl rfl (ld_blk m8_5 rfl)) ?_
                        refine xp_pure (i := 4) rfl (by kernel_rfl) (by kernel_rfl) rfl rfl rfl (pv_move (v := .int _ _) rfl rfl) ?_
                        refine xp_pure (i := 6) rfl (by kernel_rfl) (by kernel_rfl) rfl rfl rfl (pv_fieldAddr rfl rfl) ?_
                        refine xp_light (i := 7) rfl (by kernel_rfl) (by kernel_rfl) rfl rfl rfl (lv_load (v := .slice _ _ _) rfl rfl (ld_blk m8_5 rfl)) ?_
                        refine xp_heavy (i := 5) (by kernel_rfl) ?_
                        refine xph_val rfl rfl rfl rfl (hv_call (g := 46) rfl rfl (dput (l := (gE E (kP b o)).rn) (((hE.get hk2).1.ints).ext hX) (by rw [hg1]; exact hgd.asc) (x := j) (by rw [hg1]; exact hno.1) (by have := hgd.r8; rw [hg1]; omega) hX.size) rfl) (pk (by kernel_rfl) (pd (by kernel_rfl) (pk (by kernel_rfl) pn))) ?_
                        rintro v10_5 H10_5 ⟨a10_5, c10_5, rfl, hO10_5, hE10_5⟩
                        have m0_0 := m0_0.ext hE10_5
                        have m0_1 := m0_1.ext hE10_5
                        have m8_5 := m8_5.ext hE10_5
                        have hX := hX.trans hE10_5
                        refine ⟨(okc (lv_load (v := .slice _ _ _) rfl rfl (ld_blk m8_5 rfl)) (okc (lv_load (v := .agg _) rfl rfl (ld_blk_a m0_0 rfl rfl)) okn)), ?_⟩
                        refine xp_pure (i := 8) rfl (by kernel_rfl) (by kernel_rfl) rfl rfl rfl (pv_build_s (cs := [.slice _ _ _, .slice _ _ _]) rfl rfl rfl) ?_
                        refine xp_heavy (i := 9) (by kernel_rfl) ?_
                        refine xph_val rfl rfl rfl rfl (hv_call (g := 45) rfl rfl (dwithS (la := la) (lc := lc) (l := l) hEl (hE.ext hX) hEc (by omega) hk2 (own_IX hO10_5 hG) ((hE.get hk2).2.ext hX) (hGX hX)) rfl) (pk (by kernel_rfl) (pd (by kernel_rfl) pn)) ?_
                        rintro v10_9 H10_9 ⟨a10_9, c10_9, rfl, hL10_9, hE10_9⟩
                        have m0_0 := m0_0.ext hE10_9
                        have m0_1 := m0_1.ext hE10_9
                        have m8_5 := m8_5.ext hE10_9
                        have hO10_5 := hO10_5.ext hE10_9
                        have hX := hX.trans hE10_9
                        refine ⟨(okc (lv_load (v := .slice _ _ _) rfl rfl (ld_blk m8_5 rfl)) okn), ?_⟩
                        refine xp_heavy (i := 10) (by kernel_rfl) ?_
                        refine xph_store rfl rfl rfl (hv_storeA (vs := [.slice _ _ _, .slice _ _ _]) rfl rfl rfl (m0_1) rfl (by rfl) rfl) (pd (by kernel_rfl) pn) ?_
                        rintro v10_10 H10_10 ⟨hU10_10, hZ10_10⟩
                        have m0_0 := m0_0.off hU10_10.but (by first | exact nm0_0_0_1 | exact ⟨m0_0.ne m0_1 rfl⟩ | exact ⟨m0_0.ne m0_1 (by assumption)⟩ | exact ⟨Ne.symm (m0_1.ne m0_0 (by assumption))⟩)
                        have m8_5 := m8_5.off hU10_10.but (by first | exact nm0_1_8_5.symm | exact ⟨m8_5.ne m0_1 rfl⟩ | exact ⟨m8_5.ne m0_1 (by assumption)⟩ | exact ⟨Ne.symm (m0_1.ne m8_5 (by assumption))⟩)
                        have hO10_5 := hO10_5.offU m0_1 hU10_10.but (.inl rfl)
                        have hL10_9 := hL10_9.offT m0_1 hU10_10.but (by first | rfl | assumption)
                        have hX := hX.upd hU10_10.but gb0_1
                        have m0_1 := hU10_10.blk
                        refine ⟨okn, ?_⟩
                        refine xp_pure (i := 11) rfl (by kernel_rfl) (by kernel_rfl) rfl rfl rfl (pv_assign (v := .bool _) rfl rfl) ?_
                        refine xp_pure (i := 12) rfl (by kernel_rfl) (by kernel_rfl) rfl rfl rfl (pv_assign (v := .int _ _) rfl rfl) ?_
                        refine xp_done (by kernel_rfl) ?_
                        refine xthen_normal ?_
                        refine xc_ret ?_
                        refine xthen_ret ?_
                        refine fin_ret (resv3 rfl (rv_c (ty := 45) rfl (ld_blk_a m0_1 rfl rfl)) (rv_t (v := .bool _) rfl) (rv_t (v := .int _ _) rfl)) ?_
                        obtain ⟨e1, e2, e3⟩ := ask_run3 hi1_3 ⟨by omega, by omega⟩ hof (by rw [← hg1]; exact h9_6)
                        rw [e1, e2, e3]
                        rw [hEm, hg1, hg2] at hL10_9
                        exact ⟨_, _, rfl, hL10_9, hX⟩
                      · skip
                        refine xp_done (by kernel_rfl) ?_
                        refine xthen_normal ?_
                        refine xc_cond_f rfl ?_
                        refine xc_skip ?_
                        refine xthen_normal ?_
                        refine xc_seq ?_
                        refine xc_seq ?_
                        refine xc_region ?_
                        refine xl_light rfl rfl rfl (lv_load (v := .agg _) rfl rfl (ld_blk_a m0_0 rfl rfl)) ?_
                        refine xl_pure rfl rfl rfl (pv_move (v := .int _ _) rfl rfl) ?_
                        refine xl_heavy rfl rfl rfl (hv_call (g := 38) rfl rfl (dslots (hs.ext hX) (show kP b o < 2 * l.length by omega) (show l.length ≤ 8 by omega)) rfl) ?_
                        rintro v11_2 H11_2 ⟨hv11_2, hE11_2⟩
                        have m0_0 := m0_0.ext hE11_2
                        have m0_1 := m0_1.ext hE11_2
                        have m8_5 := m8_5.ext hE11_2
                        have hX := hX.trans hE11_2
                        rw [sls_gs hN] at hv11_2
                        subst hv11_2
                        refine xl_dec rfl rfl rfl (pv_eql rfl rfl rfl) (fun h11_3 => ?_) (fun h11_3 => ?_)
                        · skip
                          refine xl_pure rfl rfl rfl (pv_move (v := .bool _) rfl rfl) ?_
                          refine xl_skip rfl rfl rfl ?_
                          refine xl_skip rfl rfl rfl ?_
                          refine xl_skip rfl rfl rfl ?_
                          refine xl_skip rfl rfl rfl ?_
                          refine xl_pure rfl rfl rfl (pv_pick_t (v := .bool _) rfl rfl rfl) ?_
                          refine xl_nil ?_
                          refine xthen_normal ?_
                          refine xc_cond_t rfl ?_
                          refine xc_seq ?_
                          refine xc_region ?_
                          refine xl_light rfl rfl rfl (lv_load (v := .agg _) rfl rfl (ld_blk_a m0_0 rfl rfl)) ?_
                          refine xl_store rfl rfl (hv_storeA (vs := [.slice _ _ _, .slice _ _ _]) rfl rfl rfl (m0_1) rfl (by rfl) rfl) ?_
                          rintro v12_1 H12_1 ⟨hU12_1, hZ12_1⟩
                          have m0_0 := m0_0.off hU12_1.but (by first | exact nm0_0_0_1 | exact ⟨m0_0.ne m0_1 rfl⟩ | exact ⟨m0_0.ne m0_1 (by assumption)⟩ | exact ⟨Ne.symm (m0_1.ne m0_0 (by assumption))⟩)
                          have m8_5 := m8_5.off hU12_1.but (by first | exact nm0_1_8_5.symm | exact ⟨m8_5.ne m0_1 rfl⟩ | exact ⟨m8_5.ne m0_1 (by assumption)⟩ | exact ⟨Ne.symm (m0_1.ne m8_5 (by assumption))⟩)
                          have hX := hX.upd hU12_1.but gb0_1
                          have m0_1 := hU12_1.blk
                          refine xl_pure rfl rfl rfl (pv_assign (v := .bool _) rfl rfl) ?_
                          refine xl_pure rfl rfl rfl (pv_assign (v := .int _ _) rfl rfl) ?_
                          refine xl_nil ?_
                          refine xthen_normal ?_
                          refine xc_ret ?_
                          refine xthen_ret ?_
                          refine fin_ret (resv3 rfl (rv_c (ty := 45) rfl (ld_blk_a m0_1 rfl rfl)) (rv_t (v := .bool _) rfl) (rv_t (v := .int _ _) rfl)) ?_
                          have e1 : askE S f b o j = 10 := askE10 hi1_3 ⟨by omega, by omega⟩ (by rw [hof]; decide) (by rw [← hg1]; exact h9_6) (by first | exact .inl h11_3 | exact .inr (by rw [← hg2]; omega))
                          obtain ⟨e2, e3⟩ := ask_no3 e1 (by decide)
                          rw [e1, e2, e3]
                          exact ⟨xa, xc, rfl, hx0.ext hX, hX⟩
                        · skip
                          refine xl_pure rfl rfl rfl (pv_move (v := .bool _) rfl rfl) ?_
                          refine xl_pure rfl rfl rfl (pv_fieldAddr rfl rfl) ?_
                          refine xl_light rfl rfl rfl (lv_load (v := .slice _ _ _) rfl rfl (ld_blk m8_5 rfl)) ?_
                          refine xl_pure rfl rfl rfl (pv_len_l rfl rfl) ?_
                          refine xl_dec rfl rfl rfl (pv_geq rfl rfl rfl) (fun h11_8 => ?_) (fun h11_8 => ?_)
                          · skip
                            refine xl_pure rfl rfl rfl (pv_pick_f (v := .bool _) rfl rfl rfl) ?_
                            refine xl_nil ?_
                            refine xthen_normal ?_
                            refine xc_cond_t rfl ?_
                            refine xc_seq ?_
                            refine xc_region ?_
                            refine xl_light rfl rfl rfl (lv_load (v := .agg _) rfl rfl (ld_blk_a m0_0 rfl rfl)) ?_
                            refine xl_store rfl rfl (hv_storeA (vs := [.slice _ _ _, .slice _ _ _]) rfl rfl rfl (m0_1) rfl (by rfl) rfl) ?_
                            rintro v12_1 H12_1 ⟨hU12_1, hZ12_1⟩
                            have m0_0 := m0_0.off hU12_1.but (by first | exact nm0_0_0_1 | exact ⟨m0_0.ne m0_1 rfl⟩ | exact ⟨m0_0.ne m0_1 (by assumption)⟩ | exact ⟨Ne.symm (m0_1.ne m0_0 (by assumption))⟩)
                            have m8_5 := m8_5.off hU12_1.but (by first | exact nm0_1_8_5.symm | exact ⟨m8_5.ne m0_1 rfl⟩ | exact ⟨m8_5.ne m0_1 (by assumption)⟩ | exact ⟨Ne.symm (m0_1.ne m8_5 (by assumption))⟩)
                            have hX := hX.upd hU12_1.but gb0_1
                            have m0_1 := hU12_1.blk
                            refine xl_pure rfl rfl rfl (pv_assign (v := .bool _) rfl rfl) ?_
                            refine xl_pure rfl rfl rfl (pv_assign (v := .int _ _) rfl rfl) ?_
                            refine xl_nil ?_
                            refine xthen_normal ?_
                            refine xc_ret ?_
                            refine xthen_ret ?_
                            refine fin_ret (resv3 rfl (rv_c (ty := 45) rfl (ld_blk_a m0_1 rfl rfl)) (rv_t (v := .bool _) rfl) (rv_t (v := .int _ _) rfl)) ?_
                            have e1 : askE S f b o j = 10 := askE10 hi1_3 ⟨by omega, by omega⟩ (by rw [hof]; decide) (by rw [← hg1]; exact h9_6) (by first | exact .inl h11_3 | exact .inr (by rw [← hg2]; omega))
                            obtain ⟨e2, e3⟩ := ask_no3 e1 (by decide)
                            rw [e1, e2, e3]
                            exact ⟨xa, xc, rfl, hx0.ext hX, hX⟩
                          · skip
                            refine xl_pure rfl rfl rfl (pv_pick_f (v := .bool _) rfl rfl rfl) ?_
                            refine xl_nil ?_
                            refine xthen_normal ?_
                            refine xc_cond_f rfl ?_
                            refine xc_skip ?_
                            refine xthen_normal ?_
                            refine xc_seq ?_
                            refine xc_region ?_
                            refine xl_pure rfl rfl rfl (pv_assign (v := .slice _ _ _) rfl rfl) ?_
                            refine xl_nil ?_
                            refine xthen_normal ?_
                            refine xc_seq ?_
                            refine xc_region ?_
                            refine xl_pure rfl rfl rfl (pv_move (v := .slice _ _ _) rfl rfl) ?_
                            refine xl_pure rfl rfl rfl (pv_fieldAddr rfl rfl) ?_
                            refine xl_light rfl rfl rfl (lv_load (v := .slice _ _ _) rfl rfl (ld_blk m8_5 rfl)) ?_
                            refine xl_heavy rfl rfl rfl (hv_append_cells (size := 1) (news := ints (gE E (kP b o)).wt) rfl rfl (Own.nil _ H.size 3 1) rfl (ints_len1 _) (ints_src (((hE.get hk2).2.ints).ext hX)) (ints_one1 _) rfl (by decide) (by omega) (by omega) hX.size) ?_
                            rintro v14_3 H14_3 ⟨hO14_3, hG14_3⟩
                            have m0_0 := m0_0.offT (Own.nil _ H.size 3 1) hG14_3 rfl
                            have m0_1 := m0_1.offT (Own.nil _ H.size 3 1) hG14_3 rfl
                            have m8_5 := m8_5.offT (Own.nil _ H.size 3 1) hG14_3 rfl
                            have hX := Own.grown (Own.nil _ H.size 3 1) hX hG14_3 (Nat.le_refl _)
                            obtain ⟨a14_3, c14_3, rfl⟩ := hO14_3.val
                            refine xl_pure rfl rfl rfl (pv_assign (v := .slice _ _ _) rfl rfl) ?_
                            refine xl_nil ?_
                            refine xthen_normal ?_
                            refine xc_seq ?_
                            refine xc_region ?_
                            refine xl_pure rfl rfl rfl (pv_move (v := .slice _ _ _) rfl rfl) ?_
                            refine xl_pure rfl rfl rfl (pv_move (v := .int _ _) rfl rfl) ?_
                            refine xl_heavy rfl rfl rfl (hv_buildSlice (cs := [.int _ _]) rfl rfl rfl rfl rfl) ?_
                            rintro v15_2 H15_2 ⟨b15_2, rfl, hN15_2⟩
                            have gb15_2 := hX.fresh hN15_2
                            have nm0_0_15_2 := m0_0.apart hN15_2
                            have nm0_1_15_2 := m0_1.apart hN15_2
                            have nm8_5_15_2 := m8_5.apart hN15_2
                            have pm15_2_hO14_3 := hO14_3.apartN hN15_2
                            have m0_0 := m0_0.ext hN15_2.ext
                            have m0_1 := m0_1.ext hN15_2.ext
                            have m8_5 := m8_5.ext hN15_2.ext
                            have hO14_3 := hO14_3.ext hN15_2.ext
                            have hX := hX.trans hN15_2.ext
                            have m15_2 := hN15_2.blk
                            refine xl_heavy rfl rfl rfl (hv_append rfl rfl hO14_3 rfl (m15_2.row) rfl (by simp [Value.oneCell']) rfl (by decide) (by omega) (by omega) hX.size) ?_
                            rintro v15_3 H15_3 ⟨hO15_3, hG15_3, -, hB15_3⟩
                            have m0_0 := m0_0.offT hO14_3 hG15_3 rfl
                            have m0_1 := m0_1.offT hO14_3 hG15_3 rfl
                            have m8_5 := m8_5.offT hO14_3 hG15_3 rfl
                            have hX := hO14_3.grown hX hG15_3 (Nat.le_refl _)
                            obtain ⟨a15_3, c15_3, rfl⟩ := hO15_3.val
                            refine xl_pure rfl rfl rfl (pv_assign (v := .slice _ _ _) rfl rfl) ?_
                            refine xl_nil ?_
                            refine xthen_normal ?_
                            refine xc_seq ?_
                            refine xc_region ?_
                            refine xl_light rfl rfl rfl (lv_load (v := .agg _) rfl rfl (ld_blk_a m0_0 rfl rfl)) ?_
                            refine xl_pure rfl rfl rfl (pv_move (v := .int _ _) rfl rfl) ?_
                            refine xl_pure rfl rfl rfl (pv_fieldAddr rfl rfl) ?_
                            refine xl_light rfl rfl rfl (lv_load (v := .slice _ _ _) rfl rfl (ld_blk m8_5 rfl)) ?_
                            refine xl_pure rfl rfl rfl (pv_move (v := .slice a15_3 ((gE E (kP b o)).wt ++ [j]).length c15_3) rfl (slv (show 0 + (gE E (kP b o)).wt.length + 1 = ((gE E (kP b o)).wt ++ [j]).length by rw [List.length_append, Nat.zero_add]; rfl))) ?_
                            refine xl_pure rfl rfl rfl (pv_build_s (cs := [.slice _ _ _, .slice _ _ _]) rfl rfl rfl) ?_
                            refine xl_heavy rfl rfl rfl (hv_call (g := 45) rfl rfl (dwithS (la := la) (lc := lc) (l := l) hEl (hE.ext hX) hEc (by omega) hk2 ((hE.get hk2).1.ext hX) (own_IX (show Own _ H.size 3 1 (.slice a15_3 (0 + (gE E (kP b o)).wt.length + 1) c15_3) (0 + (gE E (kP b o)).wt.length + 1) (ints ((gE E (kP b o)).wt ++ [j])) by simpa [ints] using hO15_3) hG) (hGX hX)) rfl) ?_
                            rintro v16_6 H16_6 ⟨a16_6, c16_6, rfl, hL16_6, hE16_6⟩
                            have m0_0 := m0_0.ext hE16_6
                            have m0_1 := m0_1.ext hE16_6
                            have m8_5 := m8_5.ext hE16_6
                            have hO15_3 := hO15_3.ext hE16_6
                            have hX := hX.trans hE16_6
                            refine xl_store rfl rfl (hv_storeA (vs := [.slice _ _ _, .slice _ _ _]) rfl rfl rfl (m0_1) rfl (by rfl) rfl) ?_
                            rintro v16_7 H16_7 ⟨hU16_7, hZ16_7⟩
                            have m0_0 := m0_0.off hU16_7.but (by first | exact nm0_0_0_1 | exact ⟨m0_0.ne m0_1 rfl⟩ | exact ⟨m0_0.ne m0_1 (by assumption)⟩ | exact ⟨Ne.symm (m0_1.ne m0_0 (by assumption))⟩)
                            have m8_5 := m8_5.off hU16_7.but (by first | exact nm0_1_8_5.symm | exact ⟨m8_5.ne m0_1 rfl⟩ | exact ⟨m8_5.ne m0_1 (by assumption)⟩ | exact ⟨Ne.symm (m0_1.ne m8_5 (by assumption))⟩)
                            have hO15_3 := hO15_3.offU m0_1 hU16_7.but (.inl rfl)
                            have hL16_6 := hL16_6.offT m0_1 hU16_7.but (by first | rfl | assumption)
                            have hX := hX.upd hU16_7.but gb0_1
                            have m0_1 := hU16_7.blk
                            refine xl_pure rfl rfl rfl (pv_assign (v := .bool _) rfl rfl) ?_
                            refine xl_pure rfl rfl rfl (pv_assign (v := .int _ _) rfl rfl) ?_
                            refine xl_nil ?_
                            refine xthen_normal ?_
                            refine xc_ret ?_
                            refine fin_ret (resv3 rfl (rv_c (ty := 45) rfl (ld_blk_a m0_1 rfl rfl)) (rv_t (v := .bool _) rfl) (rv_t (v := .int _ _) rfl)) ?_
                            obtain ⟨e1, e2, e3⟩ := ask_wait3 hi1_3 ⟨by omega, by omega⟩ hof (by rw [← hg1]; exact h9_6) (fun h => h.elim h11_3 (fun h => h11_8 (by rw [← hg2] at h; omega)))
                            rw [e1, e2, e3]
                            rw [hEm, hg1, hg2] at hL16_6
                            exact ⟨_, _, rfl, hL16_6, hX⟩))
  · skip
    rw [← hll] at hi1_3
    refine xl_pure rfl rfl rfl (pv_assign (v := .int _ _) rfl rfl) ?_
    refine xl_nil ?_
    refine xthen_normal ?_
    refine xc_seq ?_
    refine xc_seq ?_
    refine xc_region ?_
    refine xl_pure rfl rfl rfl (pv_move (v := .int _ _) rfl rfl) ?_
    refine xl_dec rfl rfl rfl (pv_lss rfl rfl rfl) (fun h2_1 => ?_) (fun h2_1 => ?_)
    · first
      | (exfalso; omega)
      |  (skip
          refine xl_nil ?_
          refine xthen_normal ?_
          refine xc_cond_t rfl ?_
          refine xc_seq ?_
          refine xc_region ?_
          refine xl_light rfl rfl rfl (lv_load (v := .agg _) rfl rfl (ld_blk_a m0_0 rfl rfl)) ?_
          refine xl_store rfl rfl (hv_storeA (vs := [.slice _ _ _, .slice _ _ _]) rfl rfl rfl (m0_1) rfl (by rfl) rfl) ?_
          rintro v3_1 H3_1 ⟨hU3_1, hZ3_1⟩
          have m0_0 := m0_0.off hU3_1.but (by first | exact nm0_0_0_1 | exact ⟨m0_0.ne m0_1 rfl⟩ | exact ⟨m0_0.ne m0_1 (by assumption)⟩ | exact ⟨Ne.symm (m0_1.ne m0_0 (by assumption))⟩)
          have hX := hX.upd hU3_1.but gb0_1
          have m0_1 := hU3_1.blk
          refine xl_pure rfl rfl rfl (pv_assign (v := .bool _) rfl rfl) ?_
          refine xl_pure rfl rfl rfl (pv_assign (v := .int _ _) rfl rfl) ?_
          refine xl_nil ?_
          refine xthen_normal ?_
          refine xc_ret ?_
          refine xthen_ret ?_
          refine fin_ret (resv3 rfl (rv_c (ty := 45) rfl (ld_blk_a m0_1 rfl rfl)) (rv_t (v := .bool _) rfl) (rv_t (v := .int _ _) rfl)) ?_
          have e1 : askE S f b o j = 3 := askE3 hi1_3
          obtain ⟨e2, e3⟩ := ask_no3 e1 (by decide)
          rw [e1, e2, e3]
          exact ⟨xa, xc, rfl, hx0.ext hX, hX⟩)
    · exact absurd (by decide) h2_1
end Go.XG
