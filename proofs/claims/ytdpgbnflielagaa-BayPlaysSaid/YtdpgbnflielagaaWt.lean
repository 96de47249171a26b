/-
  Walks of the seat's functions over the logic XG: each function, what it computes. Printed by a program out of wip/walks.py.
-/
import Derived.Test.YtdpgbnflielagaaI
import Derived.Test.YtdpgbnflielagaaN
import Derived.Test.YtdpgbnflielagaaDm
import Derived.Test.YtdpgbnflielagaaWa
import Derived.Test.YtdpgbnflielagaaWb
import Derived.Test.YtdpgbnflielagaaWc
import Derived.Test.YtdpgbnflielagaaWd
import Derived.Test.YtdpgbnflielagaaWe
import Derived.Test.YtdpgbnflielagaaWf
import Derived.Test.YtdpgbnflielagaaWg
import Derived.Test.YtdpgbnflielagaaWh
import Derived.Test.YtdpgbnflielagaaWi
import Derived.Test.YtdpgbnflielagaaWj
import Derived.Test.YtdpgbnflielagaaWk
import Derived.Test.YtdpgbnflielagaaWl
import Derived.Test.YtdpgbnflielagaaWm
import Derived.Test.YtdpgbnflielagaaWo
import Derived.Test.YtdpgbnflielagaaWp
import Derived.Test.YtdpgbnflielagaaWq
import Derived.Test.YtdpgbnflielagaaWr
import Derived.Test.YtdpgbnflielagaaWs
namespace Go.XG
open Go.Proofs
set_option maxRecDepth 4000
set_option maxHeartbeats 4000000
theorem dleave {O : Outer} {H : Heap} {la xa : Option Addr} {lc xc : Nat} {l : List (List Int)} {S : List Sd} {f : Fn} {G : Nat → Prop} {B : Nat} (hs : Rows H la 4 l) (hN : sls l = S.map Sd.sl) (hx : LX B H G xa xc (S.map lnS)) (hI : IV S f) (hG : ∀ i, G i → i < H.size) (hB : B ≤ H.size) (j : Int) :
    FnC Try.prog 34 #[.agg #[.slice la l.length lc, .slice xa S.length xc], .int .i64 j] O H (fun v H' => ∃ a' c', v = .tuple #[.agg #[.slice la l.length lc, .slice a' S.length c'], .int .i64 (levN S f j), .int .i64 (levE f j)] ∧ LX B H' G a' c' ((levS S f j).map lnS) ∧ Ext H H') := by
  have hx0 := hx
  obtain ⟨E, hEm, hE, hEc⟩ := hx
  have hEl : E.length = S.length := by have := congrArg List.length hEm; rwa [List.length_map, List.length_map] at this
  obtain ⟨gx, ox, hdx⟩ := hE.at'
  have h16 := hI.gs.1
  have hll := sls_S hN
  have hGX : ∀ {H1 : Heap}, Ext H H1 → ∀ i, G i → i < H1.size := fun e i h => Nat.lt_of_lt_of_le (hG i h) e.size
  refine fn_enter (A := [.agg #[.slice la l.length lc, .slice xa S.length xc], .int .i64 j]) Try.func34 rfl rfl ?_
  have hX := Ext.refl H
  refine xc_seq ?_
  refine xc_region ?_
  refine xl_heavy rfl rfl rfl (hv_box rfl rfl) ?_
  rintro v0_0 H0_0 ⟨b0_0, rfl, hN0_0⟩
  have gb0_0 := hX.fresh hN0_0
  have hX := hX.trans hN0_0.ext
  have m0_0 := hN0_0.blk
  refine xl_heavy rfl rfl rfl (hv_alloc rfl rfl) ?_
  rintro v0_1 H0_1 ⟨b0_1, rfl, hN0_1⟩
  have gb0_1 := hX.fresh hN0_1
  have nm0_0_0_1 := m0_0.apart hN0_1
  have m0_0 := m0_0.ext hN0_1.ext
  have hX := hX.trans hN0_1.ext
  have m0_1 := hN0_1.blk
  refine xl_pure rfl rfl rfl (pv_assign (v := .int _ _) rfl rfl) ?_
  refine xl_pure rfl rfl rfl (pv_assign (v := .int _ _) rfl rfl) ?_
  refine xl_nil ?_
  refine xthen_normal ?_
  refine xc_seq ?_
  have hbB : B ≤ b0_1 := Nat.le_trans hB gb0_1.le
  refine xc_region ?_
  refine xl_light rfl rfl rfl (lv_load (v := .agg _) rfl rfl (ld_blk_a m0_0 rfl rfl)) ?_
  refine xl_pure rfl rfl rfl (pv_move (v := .int _ _) rfl rfl) ?_
  refine xl_heavy rfl rfl rfl (hv_call (g := 44) rfl rfl (dfind (la := la) (lc := lc) (l := l) (hx0.ext hX) hI j) rfl) ?_
  rintro v1_2 H1_2 ⟨hv1_2, hE1_2⟩
  have m0_0 := m0_0.ext hE1_2
  have m0_1 := m0_1.ext hE1_2
  have hX := hX.trans hE1_2
  rcases hof : f j with _ | r
  · skip
    rw [hof] at hv1_2
    replace hv1_2 : v1_2 = .int .i64 (-1) := hv1_2
    subst hv1_2
    refine xl_pure rfl rfl rfl (pv_assign (v := .int _ _) rfl rfl) ?_
    refine xl_nil ?_
    refine xthen_normal ?_
    refine xc_seq ?_
    refine xc_seq ?_
    refine xc_region ?_
    refine xl_pure rfl rfl rfl (pv_move (v := .int _ _) rfl rfl) ?_
    refine xl_dec rfl rfl rfl (pv_lss rfl rfl rfl) (fun h2_1 => ?_) (fun h2_1 => ?_)
    · first
      | (exfalso; omega)
      |  (skip
          refine xl_nil ?_
          refine xthen_normal ?_
          refine xc_cond_t rfl ?_
          refine xc_seq ?_
          refine xc_region ?_
          refine xl_light rfl rfl rfl (lv_load (v := .agg _) rfl rfl (ld_blk_a m0_0 rfl rfl)) ?_
          refine xl_store rfl rfl (hv_storeA (vs := [.slice _ _ _, .slice _ _ _]) rfl rfl rfl (m0_1) rfl (by rfl) rfl) ?_
          rintro v3_1 H3_1 ⟨hU3_1, hZ3_1⟩
          have m0_0 := m0_0.off hU3_1.but (by first | exact nm0_0_0_1 | exact ⟨m0_0.ne m0_1 rfl⟩ | exact ⟨m0_0.ne m0_1 (by assumption)⟩ | exact ⟨Ne.symm (m0_1.ne m0_0 (by assumption))⟩)
          have hX := hX.upd hU3_1.but gb0_1
          have m0_1 := hU3_1.blk
          refine xl_pure rfl rfl rfl (pv_assign (v := .int _ _) rfl rfl) ?_
          refine xl_pure rfl rfl rfl (pv_assign (v := .int _ _) rfl rfl) ?_
          refine xl_nil ?_
          refine xthen_normal ?_
          refine xc_ret ?_
          refine xthen_ret ?_
          refine fin_ret (resv3 rfl (rv_c (ty := 45) rfl (ld_blk_a m0_1 rfl rfl)) (rv_t (v := .int _ _) rfl) (rv_t (v := .int _ _) rfl)) ?_
          obtain ⟨e1, e2, e4⟩ := lev3n (S := S) hof
          rw [e1, e2, e4]
          exact ⟨xa, xc, rfl, hx0.ext hX, hX⟩)
    · exact absurd (by decide) h2_1
  · skip
    rw [hof] at hv1_2
    replace hv1_2 : v1_2 = .int .i64 r := hv1_2
    subst hv1_2
    obtain ⟨k, rfl, hk⟩ := hI.fm' j _ hof
    obtain ⟨hg1, hg2⟩ := ln_gs hEm (k := k) (by omega)
    have hgd := hI.gd hk
    refine xl_pure rfl rfl rfl (pv_assign (v := .int _ _) rfl rfl) ?_
    refine xl_nil ?_
    refine xthen_normal ?_
    refine xc_seq ?_
    refine xc_seq ?_
    refine xc_region ?_
    refine xl_pure rfl rfl rfl (pv_move (v := .int _ _) rfl rfl) ?_
    refine xl_dec rfl rfl rfl (pv_lss rfl rfl rfl) (fun h2_1 => ?_) (fun h2_1 => ?_)
    · first
      | (exfalso; omega)
      |  (skip
          refine xl_nil ?_
          refine xthen_normal ?_
          refine xc_cond_t rfl ?_
          refine xc_seq ?_
          refine xc_region ?_
          refine xl_light rfl rfl rfl (lv_load (v := .agg _) rfl rfl (ld_blk_a m0_0 rfl rfl)) ?_
          refine xl_store rfl rfl (hv_storeA (vs := [.slice _ _ _, .slice _ _ _]) rfl rfl rfl (m0_1) rfl (by rfl) rfl) ?_
          rintro v3_1 H3_1 ⟨hU3_1, hZ3_1⟩
          have m0_0 := m0_0.off hU3_1.but (by first | exact nm0_0_0_1 | exact ⟨m0_0.ne m0_1 rfl⟩ | exact ⟨m0_0.ne m0_1 (by assumption)⟩ | exact ⟨Ne.symm (m0_1.ne m0_0 (by assumption))⟩)
          have hX := hX.upd hU3_1.but gb0_1
          have m0_1 := hU3_1.blk
          refine xl_pure rfl rfl rfl (pv_assign (v := .int _ _) rfl rfl) ?_
          refine xl_pure rfl rfl rfl (pv_assign (v := .int _ _) rfl rfl) ?_
          refine xl_nil ?_
          refine xthen_normal ?_
          refine xc_ret ?_
          refine xthen_ret ?_
          refine fin_ret (resv3 rfl (rv_c (ty := 45) rfl (ld_blk_a m0_1 rfl rfl)) (rv_t (v := .int _ _) rfl) (rv_t (v := .int _ _) rfl)) ?_
          obtain ⟨e1, e2, e4⟩ := lev3n (S := S) hof
          rw [e1, e2, e4]
          exact ⟨xa, xc, rfl, hx0.ext hX, hX⟩)
    · first
      | (exfalso; omega)
      |  (skip
          refine xl_nil ?_
          refine xthen_normal ?_
          refine xc_cond_f rfl ?_
          refine xc_skip ?_
          refine xthen_normal ?_
          refine xc_seq ?_
          have hk2 : k < E.length := by omega
          have hw8 := hgd.w8
          have hr8 := hgd.r8
          rw [← hg1] at hr8
          rw [← hg2] at hw8
          have e3 := lev3 (S := S) hof
          obtain ⟨gw, ow, hdw⟩ := (hE.get hk2).2.ints.at'
          refine xc_region ?_
          refine xl_pure rfl rfl rfl (pv_fieldAddr rfl rfl) ?_
          refine xl_light rfl rfl rfl (lv_load (v := .slice _ _ _) rfl rfl (ld_blk m0_0 rfl)) ?_
          refine xl_pure rfl rfl rfl (pv_move (v := .int _ _) rfl rfl) ?_
          refine xl_pure rfl rfl rfl (pv_indexAddr_l rfl (sl_eq (hdx (by omega)).1) rfl (by omega)) ?_
          refine xl_light rfl rfl rfl (lv_load (v := .agg _) rfl rfl (by exact ldLs (k := k) ((hdx (by omega)).2.ext hX) hk2)) ?_
          refine xl_heavy rfl rfl rfl (hv_alloc rfl rfl) ?_
          rintro v4_5 H4_5 ⟨b4_5, rfl, hN4_5⟩
          have gb4_5 := hX.fresh hN4_5
          have nm0_0_4_5 := m0_0.apart hN4_5
          have nm0_1_4_5 := m0_1.apart hN4_5
          have m0_0 := m0_0.ext hN4_5.ext
          have m0_1 := m0_1.ext hN4_5.ext
          have hX := hX.trans hN4_5.ext
          have m4_5 := hN4_5.blk
          refine xl_store rfl rfl (hv_storeA (vs := [.slice _ _ _, .slice _ _ _]) rfl rfl rfl (m4_5) rfl (by rfl) rfl) ?_
          rintro v4_6 H4_6 ⟨hU4_6, hZ4_6⟩
          have m0_0 := m0_0.off hU4_6.but (by first | exact nm0_0_4_5 | exact ⟨m0_0.ne m4_5 rfl⟩ | exact ⟨m0_0.ne m4_5 (by assumption)⟩ | exact ⟨Ne.symm (m4_5.ne m0_0 (by assumption))⟩)
          have m0_1 := m0_1.off hU4_6.but (by first | exact nm0_1_4_5 | exact ⟨m0_1.ne m4_5 rfl⟩ | exact ⟨m0_1.ne m4_5 (by assumption)⟩ | exact ⟨Ne.symm (m4_5.ne m0_1 (by assumption))⟩)
          have hX := hX.upd hU4_6.but gb4_5
          have m4_5 := hU4_6.blk
          refine xl_nil ?_
          refine xthen_normal ?_
          refine xc_seq ?_
          refine xc_seq ?_
          refine xc_region ?_
          refine xl_pure rfl rfl rfl (pv_fieldAddr rfl rfl) ?_
          refine xl_light rfl rfl rfl (lv_load (v := .slice _ _ _) rfl rfl (ld_blk m4_5 rfl)) ?_
          refine xl_pure rfl rfl rfl (pv_move (v := .int _ _) rfl rfl) ?_
          refine xl_heavy rfl rfl rfl (hv_call (g := 39) rfl rfl (din (l := (gE E k).wt) (((hE.get hk2).2.ints).ext hX) (by omega) j) rfl) ?_
          rintro v5_3 H5_3 ⟨hv5_3, rfl⟩
          rcases hv5_3 with ⟨hi5_3, rfl⟩ | ⟨hi5_3, rfl⟩
          · skip
            refine xl_nil ?_
            refine xthen_normal ?_
            refine xc_cond_t rfl ?_
            refine xc_seq ?_
            refine xp_start rfl (by repeat (first | with_reducible exact np_fin | with_reducible exact np_ret | with_reducible refine np_then ?_ | with_reducible refine np_block ?_)) (by kernel_rfl) ?_
            refine xp_light (i := 0) rfl (by kernel_rfl) (by kernel_rfl) rfl rfl rfl (lv_load (v := .agg _) rfl rfl (ld_blk_a m0_0 rfl rfl)) ?_
            refine xp_pure (i := 1) rfl (by kernel_rfl) (by kernel_rfl) rfl rfl rfl (pv_move (v := .int _ _) rfl rfl) ?_
            refine xp_pure (i := 2) rfl (by kernel_rfl) (by kernel_rfl) rfl rfl rfl (pv_fieldAddr rfl rfl) ?_
            refine xp_light (i := 3) rfl (by kernel_rfl) (by kernel_rfl) rfl rfl rfl (lv_load (v := .slice _ _ _) rfl rfl (ld_blk m4_5 rfl)) ?_
            refine xp_pure (i := 4) rfl (by kernel_rfl) (by kernel_rfl) rfl rfl rfl (pv_fieldAddr rfl rfl) ?_
            refine xp_light (i := 5) rfl (by kernel_rfl) (by kernel_rfl) rfl rfl rfl (lv_load (v := .slice _ _ _) rfl rfl (ld_blk m4_5 rfl)) ?_
            refine xp_pure (i := 6) rfl (by kernel_rfl) (by kernel_rfl) rfl rfl rfl (pv_move (v := .int _ _) rfl rfl) ?_
            refine xp_heavy (i := 7) (by kernel_rfl) ?_
            refine xph_val rfl rfl rfl rfl (hv_call (g := 47) rfl rfl (dwout (l := (gE E k).wt) (((hE.get hk2).2.ints).ext hX) (by omega) (x := j) hX.size) rfl) (pd (by kernel_rfl) (pk (by kernel_rfl) (pk (by kernel_rfl) pn))) ?_
            rintro v6_7 H6_7 ⟨a6_7, c6_7, rfl, hO6_7, hE6_7⟩
            have m0_0 := m0_0.ext hE6_7
            have m0_1 := m0_1.ext hE6_7
            have m4_5 := m4_5.ext hE6_7
            have hX := hX.trans hE6_7
            have hI6_7 := own_IX (B := B) hO6_7 hG
            refine ⟨(okc (lv_load (v := .slice _ _ _) rfl rfl (ld_blk m4_5 rfl)) (okc (lv_load (v := .agg _) rfl rfl (ld_blk_a m0_0 rfl rfl)) okn)), ?_⟩
            refine xp_pure (i := 8) rfl (by kernel_rfl) (by kernel_rfl) rfl rfl rfl (pv_build_s (cs := [.slice _ _ _, .slice _ _ _]) rfl rfl rfl) ?_
            refine xp_heavy (i := 9) (by kernel_rfl) ?_
            refine xph_val rfl rfl rfl rfl (hv_call (g := 45) rfl rfl (dwithS (la := la) (lc := lc) (l := l) hEl (hE.ext hX) hEc (by omega) hk2 ((hE.get hk2).1.ext hX) (hI6_7) (hGX hX)) rfl) (pk (by kernel_rfl) (pd (by kernel_rfl) pn)) ?_
            rintro v6_9 H6_9 ⟨a6_9, c6_9, rfl, hL6_9, hE6_9⟩
            have m0_0 := m0_0.ext hE6_9
            have m0_1 := m0_1.ext hE6_9
            have m4_5 := m4_5.ext hE6_9
            have hO6_7 := hO6_7.ext hE6_9
            have hI6_7 := hI6_7.ext hE6_9
            have hX := hX.trans hE6_9
            refine ⟨(okc (lv_load (v := .slice _ _ _) rfl rfl (ld_blk m4_5 rfl)) okn), ?_⟩
            refine xp_heavy (i := 10) (by kernel_rfl) ?_
            refine xph_store rfl rfl rfl (hv_storeA (vs := [.slice _ _ _, .slice _ _ _]) rfl rfl rfl (m0_1) rfl (by rfl) rfl) (pd (by kernel_rfl) pn) ?_
            rintro v6_10 H6_10 ⟨hU6_10, hZ6_10⟩
            have m0_0 := m0_0.off hU6_10.but (by first | exact nm0_0_0_1 | exact ⟨m0_0.ne m0_1 rfl⟩ | exact ⟨m0_0.ne m0_1 (by assumption)⟩ | exact ⟨Ne.symm (m0_1.ne m0_0 (by assumption))⟩)
            have m4_5 := m4_5.off hU6_10.but (by first | exact nm0_1_4_5.symm | exact ⟨m4_5.ne m0_1 rfl⟩ | exact ⟨m4_5.ne m0_1 (by assumption)⟩ | exact ⟨Ne.symm (m0_1.ne m4_5 (by assumption))⟩)
            have hO6_7 := hO6_7.offU m0_1 hU6_10.but (.inl rfl)
            have hI6_7 := hI6_7.offT m0_1 hU6_10.but (by first | rfl | assumption)
            have hL6_9 := hL6_9.offT m0_1 hU6_10.but (by first | rfl | assumption)
            have hX := hX.upd hU6_10.but gb0_1
            have m0_1 := hU6_10.blk
            refine ⟨okn, ?_⟩
            refine xp_pure (i := 11) rfl (by kernel_rfl) (by kernel_rfl) rfl rfl rfl (pv_assign (v := .int _ _) rfl rfl) ?_
            refine xp_pure (i := 12) rfl (by kernel_rfl) (by kernel_rfl) rfl rfl rfl (pv_assign (v := .int _ _) rfl rfl) ?_
            refine xp_done (by kernel_rfl) ?_
            refine xthen_normal ?_
            refine xc_ret ?_
            refine xthen_ret ?_
            refine fin_ret (resv3 rfl (rv_c (ty := 45) rfl (ld_blk_a m0_1 rfl rfl)) (rv_t (v := .int _ _) rfl) (rv_t (v := .int _ _) rfl)) ?_
            obtain ⟨e1, e2⟩ := lev_w hgd (by rw [← hg2]; exact hi5_3)
            rw [e2, e1] at e3
            rw [e3.1, e3.2.1, e3.2.2]
            rw [hEm, hg1, hg2] at hL6_9
            exact ⟨_, _, rfl, hL6_9, hX⟩
          · skip
            refine xl_nil ?_
            refine xthen_normal ?_
            refine xc_cond_f rfl ?_
            refine xc_skip ?_
            refine xthen_normal ?_
            refine xc_seq ?_
            have hjr : j ∈ (gS S k).rn := (hI.one hof).2.resolve_right (by rw [← hg2]; exact hi5_3)
            refine xc_region ?_
            refine xl_pure rfl rfl rfl (pv_fieldAddr rfl rfl) ?_
            refine xl_light rfl rfl rfl (lv_load (v := .slice _ _ _) rfl rfl (ld_blk m4_5 rfl)) ?_
            refine xl_pure rfl rfl rfl (pv_move (v := .int _ _) rfl rfl) ?_
            refine xl_heavy rfl rfl rfl (hv_call (g := 47) rfl rfl (dwout (l := (gE E k).rn) (((hE.get hk2).1.ints).ext hX) (by omega) (x := j) hX.size) rfl) ?_
            rintro v7_3 H7_3 ⟨a7_3, c7_3, rfl, hO7_3, hE7_3⟩
            have m0_0 := m0_0.ext hE7_3
            have m0_1 := m0_1.ext hE7_3
            have m4_5 := m4_5.ext hE7_3
            have hX := hX.trans hE7_3
            have hI7_3 := own_IX (B := B) hO7_3 hG
            refine xl_pure rfl rfl rfl (pv_assign (v := .slice _ _ _) rfl rfl) ?_
            refine xl_nil ?_
            refine xthen_normal ?_
            refine xc_seq ?_
            refine xc_seq ?_
            refine xc_region ?_
            refine xl_pure rfl rfl rfl (pv_fieldAddr rfl rfl) ?_
            refine xl_light rfl rfl rfl (lv_load (v := .slice _ _ _) rfl rfl (ld_blk m4_5 rfl)) ?_
            refine xl_pure rfl rfl rfl (pv_len_l rfl rfl) ?_
            refine xl_dec rfl rfl rfl (pv_eql rfl rfl rfl) (fun h8_3 => ?_) (fun h8_3 => ?_)
            · skip
              refine xl_nil ?_
              refine xthen_normal ?_
              refine xc_cond_t rfl ?_
              refine xc_seq ?_
              refine xc_region ?_
              refine xl_light rfl rfl rfl (lv_load (v := .agg _) rfl rfl (ld_blk_a m0_0 rfl rfl)) ?_
              refine xl_pure rfl rfl rfl (pv_move (v := .int _ _) rfl rfl) ?_
              refine xl_pure rfl rfl rfl (pv_move (v := .slice _ _ _) rfl rfl) ?_
              refine xl_pure rfl rfl rfl (pv_build_s (cs := [.slice a7_3 (dlI (gE E k).rn j).length c7_3, .slice none 0 0]) rfl rfl rfl) ?_
              refine xl_heavy rfl rfl rfl (hv_call (g := 45) rfl rfl (dwithS (la := la) (lc := lc) (l := l) hEl (hE.ext hX) hEc (by omega) hk2 (hI7_3) (.inl rfl) (hGX hX)) rfl) ?_
              rintro v9_4 H9_4 ⟨a9_4, c9_4, rfl, hL9_4, hE9_4⟩
              have m0_0 := m0_0.ext hE9_4
              have m0_1 := m0_1.ext hE9_4
              have m4_5 := m4_5.ext hE9_4
              have hO7_3 := hO7_3.ext hE9_4
              have hI7_3 := hI7_3.ext hE9_4
              have hX := hX.trans hE9_4
              refine xl_store rfl rfl (hv_storeA (vs := [.slice _ _ _, .slice _ _ _]) rfl rfl rfl (m0_1) rfl (by rfl) rfl) ?_
              rintro v9_5 H9_5 ⟨hU9_5, hZ9_5⟩
              have m0_0 := m0_0.off hU9_5.but (by first | exact nm0_0_0_1 | exact ⟨m0_0.ne m0_1 rfl⟩ | exact ⟨m0_0.ne m0_1 (by assumption)⟩ | exact ⟨Ne.symm (m0_1.ne m0_0 (by assumption))⟩)
              have m4_5 := m4_5.off hU9_5.but (by first | exact nm0_1_4_5.symm | exact ⟨m4_5.ne m0_1 rfl⟩ | exact ⟨m4_5.ne m0_1 (by assumption)⟩ | exact ⟨Ne.symm (m0_1.ne m4_5 (by assumption))⟩)
              have hO7_3 := hO7_3.offU m0_1 hU9_5.but (.inl rfl)
              have hI7_3 := hI7_3.offT m0_1 hU9_5.but (by first | rfl | assumption)
              have hL9_4 := hL9_4.offT m0_1 hU9_5.but (by first | rfl | assumption)
              have hX := hX.upd hU9_5.but gb0_1
              have m0_1 := hU9_5.blk
              refine xl_pure rfl rfl rfl (pv_assign (v := .int _ _) rfl rfl) ?_
              refine xl_pure rfl rfl rfl (pv_assign (v := .int _ _) rfl rfl) ?_
              refine xl_nil ?_
              refine xthen_normal ?_
              refine xc_ret ?_
              refine xthen_ret ?_
              refine fin_ret (resv3 rfl (rv_c (ty := 45) rfl (ld_blk_a m0_1 rfl rfl)) (rv_t (v := .int _ _) rfl) (rv_t (v := .int _ _) rfl)) ?_
              obtain ⟨e1, e2⟩ := lev_r0 (d := gS S k) (j := j) (by rw [← hg2]; exact List.length_eq_zero_iff.1 (by omega))
              rw [e2, e1] at e3
              rw [e3.1, e3.2.1, e3.2.2]
              rw [hEm, hg1] at hL9_4
              exact ⟨_, _, rfl, hL9_4, hX⟩
            · skip
              refine xl_nil ?_
              refine xthen_normal ?_
              refine xc_cond_f rfl ?_
              refine xc_skip ?_
              refine xthen_normal ?_
              refine xc_seq ?_
              refine xc_region ?_
              refine xl_pure rfl rfl rfl (pv_fieldAddr rfl rfl) ?_
              refine xl_light rfl rfl rfl (lv_load (v := .slice _ _ _) rfl rfl (ld_blk m4_5 rfl)) ?_
              refine xl_pure rfl rfl rfl (pv_indexAddr_l rfl (sl_eq (hdw (by omega)).1) rfl (by omega)) ?_
              refine xl_light rfl rfl rfl (lv_load (v := .int _ _) rfl rfl (by exact ld_nth (k := 0) ((hdw (by omega)).2.ext hX) (by omega))) ?_
              refine xl_pure rfl rfl rfl (pv_assign (v := .int _ _) rfl rfl) ?_
              refine xl_nil ?_
              refine xthen_normal ?_
              refine xc_seq ?_
              refine xp_start rfl (by repeat (first | with_reducible exact np_fin | with_reducible exact np_ret | with_reducible refine np_then ?_ | with_reducible refine np_block ?_)) (by kernel_rfl) ?_
              refine xp_light (i := 0) rfl (by kernel_rfl) (by kernel_rfl) rfl rfl rfl (lv_load (v := .agg _) rfl rfl (ld_blk_a m0_0 rfl rfl)) ?_
              refine xp_pure (i := 1) rfl (by kernel_rfl) (by kernel_rfl) rfl rfl rfl (pv_move (v := .int _ _) rfl rfl) ?_
              refine xp_pure (i := 2) rfl (by kernel_rfl) (by kernel_rfl) rfl rfl rfl (pv_move (v := .slice _ _ _) rfl rfl) ?_
              refine xp_pure (i := 3) rfl (by kernel_rfl) (by kernel_rfl) rfl rfl rfl (pv_move (v := .int _ _) rfl rfl) ?_
              refine xp_pure (i := 5) rfl (by kernel_rfl) (by kernel_rfl) rfl rfl rfl (pv_fieldAddr rfl rfl) ?_
              refine xp_light (i := 6) rfl (by kernel_rfl) (by kernel_rfl) rfl rfl rfl (lv_load (v := .slice _ _ _) rfl rfl (ld_blk m4_5 rfl)) ?_
              refine xp_pure (i := 7) rfl (by kernel_rfl) (by kernel_rfl) rfl rfl rfl (pv_move (v := .int _ _) rfl rfl) ?_
              refine xp_pure (i := 11) rfl (by kernel_rfl) (by kernel_rfl) rfl rfl rfl (pv_move (v := .int _ _) rfl rfl) ?_
              refine xp_heavy (i := 4) (by kernel_rfl) ?_
              refine xph_val rfl rfl rfl rfl (hv_call (g := 46) rfl rfl (dput (l := (dlI (gE E k).rn j)) ((hI7_3.ints)) (asc_dl (by rw [hg1]; exact hgd.asc)) (x := ((gE E k).wt.getD 0 0)) (by rw [hg1, hg2]; exact gd0 hgd hjr (by rw [← hg2]; omega)) (by have := dl_len (l := (gE E k).rn) (x := j); omega) hX.size) rfl) (pk (by kernel_rfl) (pk (by kernel_rfl) pn)) ?_
              rintro v11_4 H11_4 ⟨a11_4, c11_4, rfl, hO11_4, hE11_4⟩
              have m0_0 := m0_0.ext hE11_4
              have m0_1 := m0_1.ext hE11_4
              have m4_5 := m4_5.ext hE11_4
              have hO7_3 := hO7_3.ext hE11_4
              have hI7_3 := hI7_3.ext hE11_4
              have hX := hX.trans hE11_4
              have hI11_4 := own_IX (B := B) hO11_4 hG
              refine ⟨(okc (lv_load (v := .slice _ _ _) rfl rfl (ld_blk m4_5 rfl)) (okc (lv_load (v := .agg _) rfl rfl (ld_blk_a m0_0 rfl rfl)) okn)), ?_⟩
              refine xp_heavy (i := 8) (by kernel_rfl) ?_
              refine xph_val rfl rfl rfl rfl (hv_call (g := 47) rfl rfl (dwout (l := (gE E k).wt) (((hE.get hk2).2.ints).ext hX) (by omega) (x := ((gE E k).wt.getD 0 0)) hX.size) rfl) (pd (by kernel_rfl) (pk (by kernel_rfl) pn)) ?_
              rintro v11_8 H11_8 ⟨a11_8, c11_8, rfl, hO11_8, hE11_8⟩
              have m0_0 := m0_0.ext hE11_8
              have m0_1 := m0_1.ext hE11_8
              have m4_5 := m4_5.ext hE11_8
              have hO7_3 := hO7_3.ext hE11_8
              have hI7_3 := hI7_3.ext hE11_8
              have hO11_4 := hO11_4.ext hE11_8
              have hI11_4 := hI11_4.ext hE11_8
              have hX := hX.trans hE11_8
              have hI11_8 := own_IX (B := B) hO11_8 hG
              refine ⟨(okc (lv_load (v := .agg _) rfl rfl (ld_blk_a m0_0 rfl rfl)) okn), ?_⟩
              refine xp_pure (i := 9) rfl (by kernel_rfl) (by kernel_rfl) rfl rfl rfl (pv_build_s (cs := [.slice _ _ _, .slice _ _ _]) rfl rfl rfl) ?_
              refine xp_heavy (i := 10) (by kernel_rfl) ?_
              refine xph_val rfl rfl rfl rfl (hv_call (g := 45) rfl rfl (dwithS (la := la) (lc := lc) (l := l) hEl (hE.ext hX) hEc (by omega) hk2 (hI11_4) (hI11_8) (hGX hX)) rfl) (pd (by kernel_rfl) pn) ?_
              rintro v11_10 H11_10 ⟨a11_10, c11_10, rfl, hL11_10, hE11_10⟩
              have m0_0 := m0_0.ext hE11_10
              have m0_1 := m0_1.ext hE11_10
              have m4_5 := m4_5.ext hE11_10
              have hO7_3 := hO7_3.ext hE11_10
              have hI7_3 := hI7_3.ext hE11_10
              have hO11_4 := hO11_4.ext hE11_10
              have hI11_4 := hI11_4.ext hE11_10
              have hO11_8 := hO11_8.ext hE11_10
              have hI11_8 := hI11_8.ext hE11_10
              have hX := hX.trans hE11_10
              refine ⟨okn, ?_⟩
              refine xp_heavy (i := 12) (by kernel_rfl) ?_
              refine xph_store rfl rfl rfl (hv_storeA (vs := [.slice _ _ _, .slice _ _ _]) rfl rfl rfl (m0_1) rfl (by rfl) rfl) pn ?_
              rintro v11_12 H11_12 ⟨hU11_12, hZ11_12⟩
              have m0_0 := m0_0.off hU11_12.but (by first | exact nm0_0_0_1 | exact ⟨m0_0.ne m0_1 rfl⟩ | exact ⟨m0_0.ne m0_1 (by assumption)⟩ | exact ⟨Ne.symm (m0_1.ne m0_0 (by assumption))⟩)
              have m4_5 := m4_5.off hU11_12.but (by first | exact nm0_1_4_5.symm | exact ⟨m4_5.ne m0_1 rfl⟩ | exact ⟨m4_5.ne m0_1 (by assumption)⟩ | exact ⟨Ne.symm (m0_1.ne m4_5 (by assumption))⟩)
              have hO7_3 := hO7_3.offU m0_1 hU11_12.but (.inl rfl)
              have hI7_3 := hI7_3.offT m0_1 hU11_12.but (by first | rfl | assumption)
              have hO11_4 := hO11_4.offU m0_1 hU11_12.but (.inl rfl)
              have hI11_4 := hI11_4.offT m0_1 hU11_12.but (by first | rfl | assumption)
              have hO11_8 := hO11_8.offU m0_1 hU11_12.but (.inl rfl)
              have hI11_8 := hI11_8.offT m0_1 hU11_12.but (by first | rfl | assumption)
              have hL11_10 := hL11_10.offT m0_1 hU11_12.but (by first | rfl | assumption)
              have hX := hX.upd hU11_12.but gb0_1
              have m0_1 := hU11_12.blk
              refine ⟨okn, ?_⟩
              refine xp_pure (i := 13) rfl (by kernel_rfl) (by kernel_rfl) rfl rfl rfl (pv_assign (v := .int _ _) rfl rfl) ?_
              refine xp_pure (i := 14) rfl (by kernel_rfl) (by kernel_rfl) rfl rfl rfl (pv_assign (v := .int _ _) rfl rfl) ?_
              refine xp_done (by kernel_rfl) ?_
              refine xthen_normal ?_
              refine xc_ret ?_
              refine fin_ret (resv3 rfl (rv_c (ty := 45) rfl (ld_blk_a m0_1 rfl rfl)) (rv_t (v := .int _ _) rfl) (rv_t (v := .int _ _) rfl)) ?_
              obtain ⟨e1, e2⟩ := lev_r hgd hjr (by rw [← hg2]; omega)
              rw [e2, e1] at e3
              rw [e3.1, e3.2.1, e3.2.2]
              rw [hEm, hg1, hg2] at hL11_10
              rw [hg2]
              exact ⟨_, _, rfl, hL11_10, hX⟩)
end Go.XG
