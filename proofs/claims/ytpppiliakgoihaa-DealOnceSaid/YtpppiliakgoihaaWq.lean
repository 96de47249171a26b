/-
  Walks of the seat's functions over the logic XG: each function, what it computes. Printed by a program out of wip/walks.py.
-/
import Derived.Test.YtpppiliakgoihaaI
import Derived.Test.YtpppiliakgoihaaG
import Derived.Test.YtpppiliakgoihaaP
import Derived.Test.YtpppiliakgoihaaWa
import Derived.Test.YtpppiliakgoihaaWb
import Derived.Test.YtpppiliakgoihaaWc
import Derived.Test.YtpppiliakgoihaaWd
import Derived.Test.YtpppiliakgoihaaQ
import Derived.Test.YtpppiliakgoihaaR
import Derived.Test.YtpppiliakgoihaaXg
import Derived.Test.YtpppiliakgoihaaWe
import Derived.Test.YtpppiliakgoihaaWf
import Derived.Test.YtpppiliakgoihaaWg
import Derived.Test.YtpppiliakgoihaaWh
import Derived.Test.YtpppiliakgoihaaWi
import Derived.Test.YtpppiliakgoihaaWj
import Derived.Test.YtpppiliakgoihaaWk
import Derived.Test.YtpppiliakgoihaaV
import Derived.Test.YtpppiliakgoihaaXh
import Derived.Test.YtpppiliakgoihaaWl
import Derived.Test.YtpppiliakgoihaaWm
import Derived.Test.YtpppiliakgoihaaWn
import Derived.Test.YtpppiliakgoihaaU
import Derived.Test.YtpppiliakgoihaaWo
import Derived.Test.YtpppiliakgoihaaWp
namespace Go.XG
open Go.Proofs
set_option maxRecDepth 4000
set_option maxHeartbeats 4000000
theorem c4 {O : Outer} {H : Heap} (d : D) (a b : Option Addr) (c e : Nat) (n0 n1 n2 : Int) (es : List Int) (ea : Option Addr) (ec : Nat) (hes : es.length = 0 ∨ ∃ ba off, ea = some ⟨ba, off, none⟩ ∧ ∀ k, k < es.length → cellAt H ba (off + k * 1) = some (.int .i64 (es.getD k 0))) (hs : Stks H a d.gives) (hs' : Stks H b d.wants) :
    FnC Try.prog 4 #[.agg (dcs d a b c e).toArray, .agg #[.int .i64 n0, .int .i64 n1, .int .i64 n2], .slice ea (List.length es) ec] O H (fun v H' => v = .bool true ∧ Ext H H') := by
  refine fn_enter (A := [.agg (dcs d a b c e).toArray, .agg #[.int .i64 n0, .int .i64 n1, .int .i64 n2], .slice ea (List.length es) ec]) Try.func4 rfl rfl ?_
  have hX := Ext.refl H
  refine xc_seq ?_
  refine xc_region ?_
  refine xl_heavy rfl rfl rfl (hv_box rfl rfl) ?_
  rintro v0_0 H0_0 ⟨b0_0, rfl, hN0_0⟩
  have gb0_0 := hX.fresh hN0_0
  have hX := hX.trans hN0_0.ext
  have m0_0 := hN0_0.blk
  refine xl_heavy rfl rfl rfl (hv_box rfl rfl) ?_
  rintro v0_1 H0_1 ⟨b0_1, rfl, hN0_1⟩
  have gb0_1 := hX.fresh hN0_1
  have nm0_0_0_1 := m0_0.apart hN0_1
  have m0_0 := m0_0.ext hN0_1.ext
  have hX := hX.trans hN0_1.ext
  have m0_1 := hN0_1.blk
  refine xl_pure rfl rfl rfl (pv_assign (v := .bool _) rfl rfl) ?_
  refine xl_nil ?_
  refine xthen_normal ?_
  refine xc_seq ?_
  refine xc_seq ?_
  refine xc_region ?_
  refine xl_light rfl rfl rfl (lv_load (v := .agg _) rfl rfl (ld_blk_a m0_0 rfl rfl)) ?_
  refine xl_heavy rfl rfl rfl (hv_call (g := 6) rfl rfl (c6 d a b c e) rfl) ?_
  rintro v1_1 H1_1 ⟨r1_1, rfl, hb1_1, hE1_1⟩
  have m0_0 := m0_0.ext hE1_1
  have m0_1 := m0_1.ext hE1_1
  have hX := hX.trans hE1_1
  cases r1_1
  · skip
    replace hb1_1 := mt hb1_1.2 (by decide)
    refine xl_pure rfl rfl rfl (pv_not rfl rfl) ?_
    refine xl_pure rfl rfl rfl (pv_move (v := .bool _) rfl rfl) ?_
    refine xl_skip rfl rfl rfl ?_
    refine xl_skip rfl rfl rfl ?_
    refine xl_skip rfl rfl rfl ?_
    refine xl_pure rfl rfl rfl (pv_pick_t (v := .bool _) rfl rfl rfl) ?_
    refine xl_nil ?_
    refine xthen_normal ?_
    refine xc_cond_t rfl ?_
    refine xc_seq ?_
    refine xc_region ?_
    refine xl_heavy rfl rfl rfl (hv_call (g := 7) rfl rfl (c7) rfl) ?_
    rintro v2_0 H2_0 ⟨rfl, hE2_0⟩
    have m0_0 := m0_0.ext hE2_0
    have m0_1 := m0_1.ext hE2_0
    have hX := hX.trans hE2_0
    refine xl_pure rfl rfl rfl (pv_assign (v := .bool _) rfl rfl) ?_
    refine xl_nil ?_
    refine xthen_normal ?_
    refine xc_ret ?_
    refine xthen_ret ?_
    refine fin_ret (res1 (v := .bool _) rfl rfl) ?_
    exact ⟨rfl, hX⟩
  · skip
    replace hb1_1 := hb1_1.1 rfl
    refine xl_pure rfl rfl rfl (pv_not rfl rfl) ?_
    refine xl_pure rfl rfl rfl (pv_move (v := .bool _) rfl rfl) ?_
    refine xl_pure rfl rfl rfl (pv_move (v := .slice _ _ _) rfl rfl) ?_
    refine xl_pure rfl rfl rfl (pv_len_l rfl rfl) ?_
    refine xl_dec rfl rfl rfl (pv_gtr rfl rfl rfl) (fun h1_6 => ?_) (fun h1_6 => ?_)
    · skip
      refine xl_pure rfl rfl rfl (pv_pick_f (v := .bool _) rfl rfl rfl) ?_
      refine xl_nil ?_
      refine xthen_normal ?_
      refine xc_cond_t rfl ?_
      refine xc_seq ?_
      refine xc_region ?_
      refine xl_heavy rfl rfl rfl (hv_call (g := 7) rfl rfl (c7) rfl) ?_
      rintro v2_0 H2_0 ⟨rfl, hE2_0⟩
      have m0_0 := m0_0.ext hE2_0
      have m0_1 := m0_1.ext hE2_0
      have hX := hX.trans hE2_0
      refine xl_pure rfl rfl rfl (pv_assign (v := .bool _) rfl rfl) ?_
      refine xl_nil ?_
      refine xthen_normal ?_
      refine xc_ret ?_
      refine xthen_ret ?_
      refine fin_ret (res1 (v := .bool _) rfl rfl) ?_
      exact ⟨rfl, hX⟩
    · skip
      refine xl_pure rfl rfl rfl (pv_pick_f (v := .bool _) rfl rfl rfl) ?_
      refine xl_nil ?_
      refine xthen_normal ?_
      refine xc_cond_f rfl ?_
      refine xc_skip ?_
      refine xthen_normal ?_
      refine xc_seq ?_
      refine xc_region ?_
      refine xl_pure rfl rfl rfl (pv_indexAddr_a rfl rfl rfl (by omega)) ?_
      refine xl_light rfl rfl rfl (lv_load (v := .int _ _) rfl rfl (ld_blk m0_1 rfl)) ?_
      refine xl_pure rfl rfl rfl (pv_and rfl rfl rfl (mask30 n0)) ?_
      refine xl_pure rfl rfl rfl (pv_assign (v := .int _ _) rfl rfl) ?_
      refine xl_nil ?_
      refine xthen_normal ?_
      refine xc_seq ?_
      refine xc_region ?_
      refine xl_light rfl rfl rfl (lv_load (v := .agg _) rfl rfl (ld_blk_a m0_0 rfl rfl)) ?_
      refine xl_pure rfl rfl rfl (pv_move (v := .int _ _) rfl rfl) ?_
      refine xl_heavy rfl rfl rfl (hv_call (g := 8) rfl rfl (c8 d a b c e (n0 % 1073741824) (hs.ext hX) (hs'.ext hX) (by omega) (by omega)) rfl) ?_
      rintro v4_2 H4_2 ⟨r4_2, x4_2, a4_2, b4_2, c4_2, e4_2, rfl, hd4_2, hs4_2, hE4_2⟩
      have m0_0 := m0_0.ext hE4_2
      have m0_1 := m0_1.ext hE4_2
      have hX := hX.trans hE4_2
      by_cases hr4_2 : r4_2 = 0
      · skip
        subst hr4_2
        obtain ⟨hgx, hst1, hn0, hn1⟩ := open_good hd4_2.symm
        refine xl_pure rfl rfl rfl (pv_move (v := .tuple _) rfl rfl) ?_
        refine xl_pure rfl rfl rfl (pv_extract (v := .agg _) rfl rfl rfl) ?_
        refine xl_pure rfl rfl rfl (pv_extract (v := .int _ _) rfl rfl rfl) ?_
        refine xl_heavy rfl rfl rfl (hv_alloc rfl rfl) ?_
        rintro v4_6 H4_6 ⟨b4_6, rfl, hN4_6⟩
        have gb4_6 := hX.fresh hN4_6
        have nm0_0_4_6 := m0_0.apart hN4_6
        have nm0_1_4_6 := m0_1.apart hN4_6
        have m0_0 := m0_0.ext hN4_6.ext
        have m0_1 := m0_1.ext hN4_6.ext
        have hX := hX.trans hN4_6.ext
        have m4_6 := hN4_6.blk
        refine xl_store rfl rfl (hv_storeA (vs := [.int _ _, .int _ _, .int _ _, .int _ _, .int _ _, .int _ _, .int _ _, .int _ _, .int _ _, .int _ _, .int _ _, .int _ _, .int _ _, .slice _ _ _, .slice _ _ _, .int _ _, .int _ _, .int _ _, .int _ _]) rfl rfl rfl (m4_6) rfl (by rfl) rfl) ?_
        rintro v4_7 H4_7 ⟨hU4_7, hZ4_7⟩
        have m0_0 := m0_0.off hU4_7.but (nm0_0_4_6)
        have m0_1 := m0_1.off hU4_7.but (nm0_1_4_6)
        have hX := hX.upd hU4_7.but gb4_6
        have m4_6 := hU4_7.blk
        refine xl_pure rfl rfl rfl (pv_assign (v := .int _ _) rfl rfl) ?_
        refine xl_nil ?_
        refine xthen_normal ?_
        refine xc_seq ?_
        refine xc_seq ?_
        refine xc_region ?_
        refine xl_pure rfl rfl rfl (pv_move (v := .int _ _) rfl rfl) ?_
        refine xl_ndec rfl rfl rfl (pv_neq rfl rfl rfl) (fun h5_1 => ?_) (fun h5_1 => ?_)
        · skip
          refine xl_nil ?_
          refine xthen_normal ?_
          refine xc_cond_f rfl ?_
          refine xc_skip ?_
          refine xthen_normal ?_
          refine xc_seq ?_
          refine xc_region ?_
          refine xl_pure rfl rfl rfl (pv_fieldAddr rfl rfl) ?_
          refine xl_light rfl rfl rfl (lv_load (v := .int _ _) rfl rfl (ld_blk m4_6 rfl)) ?_
          refine xl_pure rfl rfl rfl (pv_assign (v := .int _ _) rfl rfl) ?_
          refine xl_nil ?_
          refine xthen_normal ?_
          refine xc_cut (τ := Int) (fun t => [(2, .slice ea (List.length es) ec), (4, .pointer (some ⟨b0_1, 0, none⟩)), (7, .int .i64 (n0 % 1073741824)), (8, .pointer (some ⟨b4_6, 0, none⟩)), (10, .int .i64 t)]) (fun t H' => (t = locked x4_2) ∧ (Blk H' b4_6 (dcs x4_2 a4_2 b4_2 c4_2 e4_2) 24) ∧ (Blk H' b0_1 [.int .i64 n0, .int .i64 n1, .int .i64 n2] 25) ∧ (Ext H H')) ?_ ?_
          · skip
            refine xc_seq ?_
            refine xc_region ?_
            refine xl_pure rfl rfl rfl (pv_fieldAddr rfl rfl) ?_
            refine xl_light rfl rfl rfl (lv_load (v := .int _ _) rfl rfl (ld_blk m4_6 rfl)) ?_
            refine xl_dec rfl rfl rfl (pv_eql rfl rfl rfl) (fun h8_2 => ?_) (fun h8_2 => ?_)
            · skip
              refine xl_nil ?_
              refine xthen_normal ?_
              refine xc_cond_t rfl ?_
              refine xc_region ?_
              refine xl_pure rfl rfl rfl (pv_assign (v := .int _ _) rfl rfl) ?_
              refine xl_nil ?_
              refine xthen_normal ?_
              first
                | exact ⟨_, ⟨rfl, rfl, rfl, rfl, rfl, trivial⟩, ⟨locked_1 hst1 h8_2, m4_6, m0_1, hX⟩⟩
                | exact ⟨_, ⟨rfl, rfl, rfl, rfl, rfl, trivial⟩, ⟨locked_2 hst1 h8_2, m4_6, m0_1, hX⟩⟩
            · skip
              refine xl_nil ?_
              refine xthen_normal ?_
              refine xc_cond_f rfl ?_
              refine xc_skip ?_
              refine xthen_normal ?_
              first
                | exact ⟨_, ⟨rfl, rfl, rfl, rfl, rfl, trivial⟩, ⟨locked_1 hst1 h8_2, m4_6, m0_1, hX⟩⟩
                | exact ⟨_, ⟨rfl, rfl, rfl, rfl, rfl, trivial⟩, ⟨locked_2 hst1 h8_2, m4_6, m0_1, hX⟩⟩
          · intro σ
            clear hX m0_0 m0_1 m4_6
            rintro lk Hm8 ⟨hlk, m4_6, m0_1, hX⟩
            replace hlk : lk = locked x4_2 := hlk
            replace m4_6 : Blk Hm8 b4_6 (dcs x4_2 a4_2 b4_2 c4_2 e4_2) 24 := m4_6
            replace m0_1 : Blk Hm8 b0_1 [.int .i64 n0, .int .i64 n1, .int .i64 n2] 25 := m0_1
            replace hX : Ext H Hm8 := hX
            show XC _ _ _ (upds σ [(2, .slice ea (List.length es) ec), (4, .pointer (some ⟨b0_1, 0, none⟩)), (7, .int .i64 (n0 % 1073741824)), (8, .pointer (some ⟨b4_6, 0, none⟩)), (10, .int .i64 lk)]) _
            refine xc_seq ?_
            refine xc_region ?_
            refine xl_light rfl rfl rfl (lv_load (v := .agg _) rfl rfl (ld_blk_a m4_6 rfl rfl)) ?_
            refine xl_pure rfl rfl rfl (pv_move (v := .int _ _) rfl rfl) ?_
            refine xl_pure rfl rfl rfl (pv_indexAddr_a rfl rfl rfl (by omega)) ?_
            refine xl_light rfl rfl rfl (lv_load (v := .int _ _) rfl rfl (ld_blk m0_1 rfl)) ?_
            refine xl_pure rfl rfl rfl (pv_indexAddr_a rfl rfl rfl (by omega)) ?_
            refine xl_light rfl rfl rfl (lv_load (v := .int _ _) rfl rfl (ld_blk m0_1 rfl)) ?_
            refine xl_heavy rfl rfl rfl (hv_call (g := 10) rfl rfl (c10 x4_2 _ _ _ _ (n0 % 1073741824) n1 n2 (res_g hs4_2 (hs.ext hX)) (res_w hs4_2 (hs'.ext hX)) (res_gl hs4_2 (by omega)) (res_wl hs4_2 (by omega))) rfl) ?_
            rintro v10_6 H10_6 ⟨r10_6, x10_6, a10_6, b10_6, c10_6, e10_6, rfl, hd10_6, hs10_6, hE10_6⟩
            have m0_1 := m0_1.ext hE10_6
            have m4_6 := m4_6.ext hE10_6
            have hX := hX.trans hE10_6
            by_cases hr10_6 : r10_6 = 0
            · skip
              subst hr10_6
              obtain ⟨-, hta, htm, rfl⟩ := take_cases hd10_6.symm rfl
              have hgt := take_good hgx hta (by omega)
              refine xl_pure rfl rfl rfl (pv_move (v := .tuple _) rfl rfl) ?_
              refine xl_pure rfl rfl rfl (pv_extract (v := .agg _) rfl rfl rfl) ?_
              refine xl_pure rfl rfl rfl (pv_extract (v := .int _ _) rfl rfl rfl) ?_
              refine xl_heavy rfl rfl rfl (hv_alloc rfl rfl) ?_
              rintro v10_10 H10_10 ⟨b10_10, rfl, hN10_10⟩
              have gb10_10 := hX.fresh hN10_10
              have nm0_1_10_10 := m0_1.apart hN10_10
              have nm4_6_10_10 := m4_6.apart hN10_10
              have m0_1 := m0_1.ext hN10_10.ext
              have m4_6 := m4_6.ext hN10_10.ext
              have hX := hX.trans hN10_10.ext
              have m10_10 := hN10_10.blk
              refine xl_store rfl rfl (hv_storeA (vs := [.int _ _, .int _ _, .int _ _, .int _ _, .int _ _, .int _ _, .int _ _, .int _ _, .int _ _, .int _ _, .int _ _, .int _ _, .int _ _, .slice _ _ _, .slice _ _ _, .int _ _, .int _ _, .int _ _, .int _ _]) rfl rfl rfl (m10_10) rfl (by rfl) rfl) ?_
              rintro v10_11 H10_11 ⟨hU10_11, hZ10_11⟩
              have m0_1 := m0_1.off hU10_11.but (nm0_1_10_10)
              have m4_6 := m4_6.off hU10_11.but (nm4_6_10_10)
              have hX := hX.upd hU10_11.but gb10_10
              have m10_10 := hU10_11.blk
              refine xl_pure rfl rfl rfl (pv_assign (v := .int _ _) rfl rfl) ?_
              refine xl_nil ?_
              refine xthen_normal ?_
              refine xc_seq ?_
              refine xc_region ?_
              refine xl_pure rfl rfl rfl (pv_assign (v := .int _ _) rfl rfl) ?_
              refine xl_nil ?_
              refine xthen_normal ?_
              refine xc_cut (τ := D × Option Addr × Option Addr × Nat × Nat × Int × Int) (fun t => [(2, .slice ea (List.length es) ec), (8, .pointer (some ⟨b4_6, 0, none⟩)), (10, .int .i64 t.2.2.2.2.2.2), (13, .int .i64 t.2.2.2.2.2.1)]) (fun t H' => (Once t.1 t.2.2.2.2.2.1 t.2.2.2.2.2.2) ∧ (Res d t.1 a b t.2.1 t.2.2.1) ∧ (Blk H' b4_6 (dcs t.1 t.2.1 t.2.2.1 t.2.2.2.1 t.2.2.2.2.1) 24) ∧ (Ext H H')) ?_ ?_
              · skip
                refine xc_seq ?_
                refine xc_region ?_
                refine xl_pure rfl rfl rfl (pv_move (v := .int _ _) rfl rfl) ?_
                refine xl_dec rfl rfl rfl (pv_eql rfl rfl rfl) (fun h12_1 => ?_) (fun h12_1 => ?_)
                · skip
                  refine xl_nil ?_
                  refine xthen_normal ?_
                  refine xc_cond_t rfl ?_
                  refine xc_seq ?_
                  refine xc_seq ?_
                  refine xc_region ?_
                  refine xl_pure rfl rfl rfl (pv_fieldAddr rfl rfl) ?_
                  refine xl_light rfl rfl rfl (lv_load (v := .int _ _) rfl rfl (ld_blk m4_6 rfl)) ?_
                  refine xl_dec rfl rfl rfl (pv_eql rfl rfl rfl) (fun h13_2 => ?_) (fun h13_2 => ?_)
                  · skip
                    refine xl_nil ?_
                    refine xthen_normal ?_
                    refine xc_cond_t rfl ?_
                    refine xc_seq ?_
                    refine xc_region ?_
                    refine xl_light rfl rfl rfl (lv_load (v := .agg _) rfl rfl (ld_blk_a m4_6 rfl rfl)) ?_
                    refine xl_pure rfl rfl rfl (pv_fieldAddr rfl rfl) ?_
                    refine xl_light rfl rfl rfl (lv_load (v := .int _ _) rfl rfl (ld_blk m4_6 rfl)) ?_
                    refine xl_pure rfl rfl rfl (pv_quov (r := x4_2.pay / 3) rfl rfl rfl (by decide) (by have := good_pay hgx; rw [Int.tdiv_eq_ediv_of_nonneg (by omega)]; exact fit_i64 (by omega))) ?_
                    refine xl_heavy rfl rfl rfl (hv_call (g := 16) rfl rfl (c16 x4_2 _ _ _ _ 3 (x4_2.pay / 3) (res_g hs4_2 (hs.ext hX)) (res_w hs4_2 (hs'.ext hX)) (res_gl hs4_2 (by omega)) (res_wl hs4_2 (by omega))) rfl) ?_
                    rintro v14_4 H14_4 ⟨e14_4, l14_4, a14_4, c14_4, rfl, hd14_4, hR14_4, hE14_4⟩
                    have m0_1 := m0_1.ext hE14_4
                    have m4_6 := m4_6.ext hE14_4
                    have m10_10 := m10_10.ext hE14_4
                    have hX := hX.trans hE14_4
                    have hX14_4 := Ext.refl H14_4
                    obtain ⟨l', hl', hp, ht⟩ := sold_all hgx ⟨h13_2, hst1, rfl⟩
                    have q14_4 := hd14_4.trans hl'
                    simp only [Prod.mk.injEq] at q14_4
                    obtain ⟨rfl, rfl⟩ := q14_4
                    refine xl_pure rfl rfl rfl (pv_move (v := .tuple _) rfl rfl) ?_
                    refine xl_pure rfl rfl rfl (pv_extract (v := .slice _ _ _) rfl rfl rfl) ?_
                    refine xl_pure rfl rfl rfl (pv_extract (v := .int _ _) rfl rfl rfl) ?_
                    refine xl_pure rfl rfl rfl (pv_assign (v := .slice _ _ _) rfl rfl) ?_
                    refine xl_pure rfl rfl rfl (pv_assign (v := .int _ _) rfl rfl) ?_
                    refine xl_nil ?_
                    refine xthen_normal ?_
                    refine xc_seq ?_
                    refine xc_seq ?_
                    refine xp_start rfl (by repeat (first | with_reducible exact np_fin | with_reducible refine np_then ?_ | with_reducible refine np_block ?_)) (by kernel_rfl) ?_
                    refine xp_pure (i := 0) rfl (by kernel_rfl) (by kernel_rfl) rfl rfl rfl (pv_move (v := .int _ _) rfl rfl) ?_
                    refine xp_ndec (i := 1) rfl (by kernel_rfl) (by kernel_rfl) rfl rfl rfl (pv_neq rfl rfl rfl) (fun h15_1 => ?_) (fun h15_1 => ?_)
                    · skip
                      refine xp_pure (i := 2) rfl (by kernel_rfl) (by kernel_rfl) rfl rfl rfl (pv_move (v := .bool _) rfl rfl) ?_
                      refine xp_pure (i := 3) rfl (by kernel_rfl) (by kernel_rfl) rfl rfl rfl (pv_move (v := .slice _ _ _) rfl rfl) ?_
                      refine xp_pure (i := 5) rfl (by kernel_rfl) (by kernel_rfl) rfl rfl rfl (pv_fieldAddr rfl rfl) ?_
                      refine xp_light (i := 6) rfl (by kernel_rfl) (by kernel_rfl) rfl rfl rfl (lv_load (v := .int _ _) rfl rfl (ld_blk m4_6 rfl)) ?_
                      refine xp_heavy (i := 4) (by kernel_rfl) ?_
                      refine xph_val rfl rfl rfl rfl (hv_call (g := 24) rfl rfl (c24 l14_4 _ _ (hR14_4.ext hX14_4) hp) rfl) (pk (by kernel_rfl) pn) ?_
                      rintro v15_4 H15_4 ⟨rfl, hE15_4⟩
                      have m0_1 := m0_1.ext hE15_4
                      have m4_6 := m4_6.ext hE15_4
                      have m10_10 := m10_10.ext hE15_4
                      have hX := hX.trans hE15_4
                      have hX14_4 := hX14_4.trans hE15_4
                      refine ⟨(okc (lv_load (v := .int _ _) rfl rfl (ld_blk m4_6 rfl)) okn), ?_⟩
                      refine xp_ndec (i := 7) rfl (by kernel_rfl) (by kernel_rfl) rfl rfl rfl (pv_neq rfl rfl rfl) (fun h15_7 => ?_) (fun h15_7 => ?_)
                      · skip
                        refine xp_pure (i := 8) rfl (by kernel_rfl) (by kernel_rfl) rfl rfl rfl (pv_pick_f (v := .bool _) rfl rfl rfl) ?_
                        refine xp_pure (i := 9) rfl (by kernel_rfl) (by kernel_rfl) rfl rfl rfl (pv_move (v := .bool _) rfl rfl) ?_
                        refine xp_light (i := 10) rfl (by kernel_rfl) (by kernel_rfl) rfl rfl rfl (lv_load (v := .agg _) rfl rfl (ld_blk_a m10_10 rfl rfl)) ?_
                        refine xp_heavy (i := 11) (by kernel_rfl) ?_
                        refine xph_val rfl rfl rfl rfl (hv_call (g := 22) rfl rfl (c22 (takenD x4_2 (n0 % 1073741824) n1 n2) _ _ _ _) rfl) (pd (by kernel_rfl) (pk (by kernel_rfl) pn)) ?_
                        rintro v15_11 H15_11 ⟨r15_11, rfl, hb15_11, hE15_11⟩
                        have m0_1 := m0_1.ext hE15_11
                        have m4_6 := m4_6.ext hE15_11
                        have m10_10 := m10_10.ext hE15_11
                        have hX := hX.trans hE15_11
                        have hX14_4 := hX14_4.trans hE15_11
                        obtain rfl : r15_11 = true := hb15_11.2 (by rw [taken_st2 h13_2]; decide)
                        refine ⟨(okc (lv_load (v := .int _ _) rfl rfl (ld_blk m4_6 rfl)) okn), ?_⟩
                        refine xp_pure (i := 12) rfl (by kernel_rfl) (by kernel_rfl) rfl rfl rfl (pv_not rfl rfl) ?_
                        refine xp_pure (i := 13) rfl (by kernel_rfl) (by kernel_rfl) rfl rfl rfl (pv_pick_f (v := .bool _) rfl rfl rfl) ?_
                        refine xp_done (by kernel_rfl) ?_
                        refine xthen_normal ?_
                        refine xc_cond_f rfl ?_
                        refine xc_skip ?_
                        refine xthen_normal ?_
                        refine xc_region ?_
                        refine xl_pure rfl rfl rfl (pv_move (v := .int _ _) rfl rfl) ?_
                        refine xl_pure rfl rfl rfl (pv_add rfl rfl rfl (fit_i64 (by omega))) ?_
                        refine xl_pure rfl rfl rfl (pv_assign (v := .int _ _) rfl rfl) ?_
                        refine xl_nil ?_
                        refine xthen_normal ?_
                        refine xc_region ?_
                        refine xl_light rfl rfl rfl (lv_load (v := .agg _) rfl rfl (ld_blk_a m10_10 rfl rfl)) ?_
                        refine xl_store rfl rfl (hv_storeA (vs := [.int _ _, .int _ _, .int _ _, .int _ _, .int _ _, .int _ _, .int _ _, .int _ _, .int _ _, .int _ _, .int _ _, .int _ _, .int _ _, .slice _ _ _, .slice _ _ _, .int _ _, .int _ _, .int _ _, .int _ _]) rfl rfl rfl (m4_6) rfl (by rfl) rfl) ?_
                        rintro v19_1 H19_1 ⟨hU19_1, hZ19_1⟩
                        have m0_1 := m0_1.off hU19_1.but (nm0_1_4_6)
                        have m10_10 := m10_10.off hU19_1.but (nm4_6_10_10.symm)
                        have hX := hX.upd hU19_1.but gb4_6
                        have m4_6 := hU19_1.blk
                        refine xl_nil ?_
                        refine xthen_normal ?_
                        first
                          | exact ⟨(_, _, _, _, _, _, _), ⟨rfl, rfl, rfl, rfl, trivial⟩, ⟨once_sold hgt (taken_st2 h13_2) (by (try simp only); omega) (by have := locked_big hgx; (try simp only); omega), res_taken hs4_2 hs10_6, m4_6, hX⟩⟩
                          | exact ⟨(_, _, _, _, _, _, _), ⟨rfl, rfl, rfl, rfl, trivial⟩, ⟨once_tk hgt hst1 h13_2 hlk, res_taken hs4_2 hs10_6, m4_6, hX⟩⟩
                          | exact ⟨(_, _, _, _, _, _, _), ⟨rfl, rfl, rfl, rfl, trivial⟩, ⟨once_open hgx hst1 hlk, hs4_2, m4_6, hX⟩⟩
                      · exact absurd (by omega) h15_7
                    · exact absurd (by decide) h15_1
                  · skip
                    refine xl_nil ?_
                    refine xthen_normal ?_
                    refine xc_cond_f rfl ?_
                    have hb1 := locked_big hgx
                    have hb2 := good_pledge hgx
                    refine xc_region ?_
                    refine xl_pure rfl rfl rfl (pv_move (v := .int _ _) rfl rfl) ?_
                    refine xl_pure rfl rfl rfl (pv_fieldAddr rfl rfl) ?_
                    refine xl_light rfl rfl rfl (lv_load (v := .int _ _) rfl rfl (ld_blk m4_6 rfl)) ?_
                    refine xl_pure rfl rfl rfl (pv_add rfl rfl rfl (fit_i64 (by omega))) ?_
                    refine xl_pure rfl rfl rfl (pv_assign (v := .int _ _) rfl rfl) ?_
                    refine xl_nil ?_
                    refine xthen_normal ?_
                    refine xc_region ?_
                    refine xl_light rfl rfl rfl (lv_load (v := .agg _) rfl rfl (ld_blk_a m10_10 rfl rfl)) ?_
                    refine xl_store rfl rfl (hv_storeA (vs := [.int _ _, .int _ _, .int _ _, .int _ _, .int _ _, .int _ _, .int _ _, .int _ _, .int _ _, .int _ _, .int _ _, .int _ _, .int _ _, .slice _ _ _, .slice _ _ _, .int _ _, .int _ _, .int _ _, .int _ _]) rfl rfl rfl (m4_6) rfl (by rfl) rfl) ?_
                    rintro v19_1 H19_1 ⟨hU19_1, hZ19_1⟩
                    have m0_1 := m0_1.off hU19_1.but (nm0_1_4_6)
                    have m10_10 := m10_10.off hU19_1.but (nm4_6_10_10.symm)
                    have hX := hX.upd hU19_1.but gb4_6
                    have m4_6 := hU19_1.blk
                    refine xl_nil ?_
                    refine xthen_normal ?_
                    first
                      | exact ⟨(_, _, _, _, _, _, _), ⟨rfl, rfl, rfl, rfl, trivial⟩, ⟨once_sold hgt (taken_st2 h13_2) (by (try simp only); omega) (by have := locked_big hgx; (try simp only); omega), res_taken hs4_2 hs10_6, m4_6, hX⟩⟩
                      | exact ⟨(_, _, _, _, _, _, _), ⟨rfl, rfl, rfl, rfl, trivial⟩, ⟨once_tk hgt hst1 h13_2 hlk, res_taken hs4_2 hs10_6, m4_6, hX⟩⟩
                      | exact ⟨(_, _, _, _, _, _, _), ⟨rfl, rfl, rfl, rfl, trivial⟩, ⟨once_open hgx hst1 hlk, hs4_2, m4_6, hX⟩⟩
                · exact absurd (by decide) h12_1
              · intro σ
                clear hX m0_1 m4_6 m10_10
                rintro ⟨y, ya, yb, yc, ye, ov, lk⟩ Hm12 ⟨hon, hrs, m4_6, hX⟩
                replace hon : Once y ov lk := hon
                replace hrs : Res d y a b ya yb := hrs
                replace m4_6 : Blk Hm12 b4_6 (dcs y ya yb yc ye) 24 := m4_6
                replace hX : Ext H Hm12 := hX
                show XC _ _ _ (upds σ [(2, .slice ea (List.length es) ec), (8, .pointer (some ⟨b4_6, 0, none⟩)), (10, .int .i64 lk), (13, .int .i64 ov)]) _
                refine xc_seq ?_
                refine xc_seq ?_
                refine xc_region ?_
                refine xl_pure rfl rfl rfl (pv_assign (v := .int _ _) rfl rfl) ?_
                refine xl_nil ?_
                refine xthen_normal ?_
                refine xc_block ?_
                refine xc_loop (τ := D × Option Addr × Option Addr × Nat × Nat × Int × Nat) (fun t => [(2, .slice ea (List.length es) ec), (8, .pointer (some ⟨b4_6, 0, none⟩)), (10, .int .i64 lk), (13, .int .i64 t.2.2.2.2.2.1), (16, .int .i64 (t.2.2.2.2.2.2 : Nat))]) (fun t H' => (t.2.2.2.2.2.2 ≤ es.length) ∧ (Once t.1 t.2.2.2.2.2.1 lk) ∧ (Res d t.1 a b t.2.1 t.2.2.1) ∧ (Blk H' b4_6 (dcs t.1 t.2.1 t.2.2.1 t.2.2.2.1 t.2.2.2.2.1) 24) ∧ (Ext H H')) (fun t H' => es.length - t.2.2.2.2.2.2) (y, ya, yb, yc, ye, ov, 0) ?_ ?_ ?_
                · exact ⟨rfl, rfl, rfl, rfl, rfl, trivial⟩
                · skip
                  exact ⟨Nat.zero_le _, hon, hrs, m4_6, hX⟩
                · intro σ
                  clear hX m4_6 hon hrs
                  rintro ⟨y, ya, yb, yc, ye, ov, i⟩ Hl21 ⟨hi, hon, hrs, m4_6, hX⟩
                  replace hi : i ≤ es.length := hi
                  replace hon : Once y ov lk := hon
                  replace hrs : Res d y a b ya yb := hrs
                  replace m4_6 : Blk Hl21 b4_6 (dcs y ya yb yc ye) 24 := m4_6
                  replace hX : Ext H Hl21 := hX
                  show XC _ _ _ (upds σ [(2, .slice ea (List.length es) ec), (8, .pointer (some ⟨b4_6, 0, none⟩)), (10, .int .i64 lk), (13, .int .i64 ov), (16, .int .i64 (i : Nat))]) _
                  refine xc_seq ?_
                  refine xc_seq ?_
                  refine xc_region ?_
                  refine xl_pure rfl rfl rfl (pv_move (v := .int _ _) rfl rfl) ?_
                  refine xl_pure rfl rfl rfl (pv_move (v := .slice _ _ _) rfl rfl) ?_
                  refine xl_pure rfl rfl rfl (pv_len_l rfl rfl) ?_
                  refine xl_dec rfl rfl rfl (pv_lss rfl rfl rfl) (fun h21_3 => ?_) (fun h21_3 => ?_)
                  · skip
                    refine xl_nil ?_
                    refine xthen_normal ?_
                    refine xc_cond_t rfl ?_
                    refine xc_skip ?_
                    refine xthen_normal ?_
                    refine xc_seq ?_
                    refine xc_block ?_
                    refine xc_seq ?_
                    obtain ⟨ba, off, hae, hea⟩ := hes.resolve_left (by omega)
                    subst hae
                    refine xp_start rfl (by repeat (first | with_reducible exact np_fin | with_reducible refine np_then ?_ | with_reducible refine np_block ?_)) (by kernel_rfl) ?_
                    refine xp_light (i := 0) rfl (by kernel_rfl) (by kernel_rfl) rfl rfl rfl (lv_load (v := .agg _) rfl rfl (ld_blk_a m4_6 rfl rfl)) ?_
                    refine xp_pure (i := 1) rfl (by kernel_rfl) (by kernel_rfl) rfl rfl rfl (pv_move (v := .slice _ _ _) rfl rfl) ?_
                    refine xp_pure (i := 2) rfl (by kernel_rfl) (by kernel_rfl) rfl rfl rfl (pv_move (v := .int _ _) rfl rfl) ?_
                    refine xp_pure (i := 3) rfl (by kernel_rfl) (by kernel_rfl) rfl rfl rfl (pv_indexAddr_l rfl rfl rfl (by omega)) ?_
                    refine xp_light (i := 4) rfl (by kernel_rfl) (by kernel_rfl) rfl rfl rfl (lv_load (v := .int _ _) rfl rfl (by exact cellAt_ext (hea i (by omega)) hX)) ?_
                    refine xp_heavy (i := 5) (by kernel_rfl) ?_
                    refine xph_val rfl rfl rfl rfl (hv_call (g := 16) rfl rfl (c16 y _ _ _ _ (es.getD i 0) 0 (res_g hrs (hs.ext hX)) (res_w hrs (hs'.ext hX)) (res_gl hrs (by omega)) (res_wl hrs (by omega))) rfl) (pd (by kernel_rfl) (pd (by kernel_rfl) pn)) ?_
                    rintro v23_5 H23_5 ⟨e23_5, l23_5, a23_5, c23_5, rfl, hd23_5, hR23_5, hE23_5⟩
                    have m4_6 := m4_6.ext hE23_5
                    have hX := hX.trans hE23_5
                    have hX23_5 := Ext.refl H23_5
                    refine ⟨okn, ?_⟩
                    refine xp_pure (i := 6) rfl (by kernel_rfl) (by kernel_rfl) rfl rfl rfl (pv_move (v := .tuple _) rfl rfl) ?_
                    refine xp_pure (i := 7) rfl (by kernel_rfl) (by kernel_rfl) rfl rfl rfl (pv_extract (v := .slice _ _ _) rfl rfl rfl) ?_
                    refine xp_pure (i := 8) rfl (by kernel_rfl) (by kernel_rfl) rfl rfl rfl (pv_extract (v := .int _ _) rfl rfl rfl) ?_
                    refine xp_pure (i := 9) rfl (by kernel_rfl) (by kernel_rfl) rfl rfl rfl (pv_assign (v := .slice _ _ _) rfl rfl) ?_
                    refine xp_pure (i := 10) rfl (by kernel_rfl) (by kernel_rfl) rfl rfl rfl (pv_assign (v := .int _ _) rfl rfl) ?_
                    refine xp_done (by kernel_rfl) ?_
                    refine xthen_normal ?_
                    refine xc_seq ?_
                    refine xp_start rfl (by repeat (first | with_reducible exact np_fin | with_reducible refine np_then ?_ | with_reducible refine np_block ?_)) (by kernel_rfl) ?_
                    refine xp_light (i := 0) rfl (by kernel_rfl) (by kernel_rfl) rfl rfl rfl (lv_load (v := .agg _) rfl rfl (ld_blk_a m4_6 rfl rfl)) ?_
                    refine xp_pure (i := 1) rfl (by kernel_rfl) (by kernel_rfl) rfl rfl rfl (pv_move (v := .slice _ _ _) rfl rfl) ?_
                    refine xp_pure (i := 2) rfl (by kernel_rfl) (by kernel_rfl) rfl rfl rfl (pv_move (v := .int _ _) rfl rfl) ?_
                    refine xp_pure (i := 3) rfl (by kernel_rfl) (by kernel_rfl) rfl rfl rfl (pv_indexAddr_l rfl rfl rfl (by omega)) ?_
                    refine xp_light (i := 4) rfl (by kernel_rfl) (by kernel_rfl) rfl rfl rfl (lv_load (v := .int _ _) rfl rfl (by exact cellAt_ext (hea i (by omega)) hX)) ?_
                    refine xp_heavy2 (i := 5) (j := 9) (by kernel_rfl) ?_ ?_
                    · skip
                      refine xph_val rfl rfl rfl rfl (hv_call (g := 12) rfl rfl (c12 y _ _ _ _ (es.getD i 0) (res_g hrs (hs.ext hX)) (res_w hrs (hs'.ext hX)) (res_gl hrs (by omega)) (res_wl hrs (by omega))) rfl) (pd (by kernel_rfl) (pd (by kernel_rfl) pn)) ?_
                      rintro v24_5 H24_5 ⟨r24_5, x24_5, a24_5, b24_5, c24_5, e24_5, rfl, hd24_5, hs24_5, hE24_5⟩
                      have m4_6 := m4_6.ext hE24_5
                      have hX := hX.trans hE24_5
                      have hX23_5 := hX23_5.trans hE24_5
                      refine ⟨okn, ?_⟩
                      by_cases hr24_5 : r24_5 = 0
                      · skip
                        subst hr24_5
                        obtain ⟨hE, rfl⟩ := end_cases hon.good hd24_5.symm rfl
                        obtain ⟨l', hl', hp, ht⟩ := end_all hon.good hE
                        have q24_5 := hd23_5.trans hl'
                        simp only [Prod.mk.injEq] at q24_5
                        obtain ⟨rfl, rfl⟩ := q24_5
                        obtain ⟨hov, hlk, hon2⟩ := once_end hon hE
                        have hso := ends_over hE
                        refine xp_pure (i := 6) rfl (by kernel_rfl) (by kernel_rfl) rfl rfl rfl (pv_move (v := .tuple _) rfl rfl) ?_
                        refine xp_pure (i := 7) rfl (by kernel_rfl) (by kernel_rfl) rfl rfl rfl (pv_extract (v := .agg _) rfl rfl rfl) ?_
                        refine xp_pure (i := 8) rfl (by kernel_rfl) (by kernel_rfl) rfl rfl rfl (pv_extract (v := .int _ _) rfl rfl rfl) ?_
                        refine xp_heavy (i := 9) (by kernel_rfl) ?_
                        refine xph_val rfl rfl rfl rfl (hv_alloc rfl rfl) pn ?_
                        rintro v24_9 H24_9 ⟨b24_9, rfl, hN24_9⟩
                        have gb24_9 := hX.fresh hN24_9
                        have gb24_9_hX23_5 := hX23_5.fresh hN24_9
                        have nm4_6_24_9 := m4_6.apart hN24_9
                        have m4_6 := m4_6.ext hN24_9.ext
                        have hX := hX.trans hN24_9.ext
                        have hX23_5 := hX23_5.trans hN24_9.ext
                        have m24_9 := hN24_9.blk
                        refine ⟨okn, ?_⟩
                        refine xp_heavy (i := 10) (by kernel_rfl) ?_
                        refine xph_store rfl rfl rfl (hv_storeA (vs := [.int _ _, .int _ _, .int _ _, .int _ _, .int _ _, .int _ _, .int _ _, .int _ _, .int _ _, .int _ _, .int _ _, .int _ _, .int _ _, .slice _ _ _, .slice _ _ _, .int _ _, .int _ _, .int _ _, .int _ _]) rfl rfl rfl (m24_9) rfl (by rfl) rfl) pn ?_
                        rintro v24_10 H24_10 ⟨hU24_10, hZ24_10⟩
                        have hX23_5 := hX23_5.upd hU24_10.but gb24_9_hX23_5
                        have m4_6 := m4_6.off hU24_10.but (nm4_6_24_9)
                        have hX := hX.upd hU24_10.but gb24_9
                        have m24_9 := hU24_10.blk
                        refine ⟨okn, ?_⟩
                        refine xp_pure (i := 11) rfl (by kernel_rfl) (by kernel_rfl) rfl rfl rfl (pv_assign (v := .int _ _) rfl rfl) ?_
                        refine xp_done (by kernel_rfl) ?_
                        refine xthen_normal ?_
                        refine xc_seq ?_
                        refine xc_seq ?_
                        refine xc_region ?_
                        refine xl_pure rfl rfl rfl (pv_move (v := .int _ _) rfl rfl) ?_
                        refine xl_dec rfl rfl rfl (pv_eql rfl rfl rfl) (fun h25_1 => ?_) (fun h25_1 => ?_)
                        · skip
                          refine xl_nil ?_
                          refine xthen_normal ?_
                          refine xc_cond_t rfl ?_
                          refine xc_seq ?_
                          refine xc_region ?_
                          refine xl_pure rfl rfl rfl (pv_move (v := .int _ _) rfl rfl) ?_
                          refine xl_pure rfl rfl rfl (pv_add rfl rfl rfl (fit_i64 (by omega))) ?_
                          refine xl_pure rfl rfl rfl (pv_assign (v := .int _ _) rfl rfl) ?_
                          refine xl_nil ?_
                          refine xthen_normal ?_
                          refine xc_seq ?_
                          refine xc_seq ?_
                          refine xc_region ?_
                          refine xl_pure rfl rfl rfl (pv_move (v := .int _ _) rfl rfl) ?_
                          refine xl_dec rfl rfl rfl (pv_gtr rfl rfl rfl) (fun h27_1 => ?_) (fun h27_1 => ?_)
                          · exact absurd h27_1 (by omega)
                          · skip
                            refine xl_pure rfl rfl rfl (pv_move (v := .bool _) rfl rfl) ?_
                            refine xl_pure rfl rfl rfl (pv_move (v := .int _ _) rfl rfl) ?_
                            refine xl_ndec rfl rfl rfl (pv_neq rfl rfl rfl) (fun h27_4 => ?_) (fun h27_4 => ?_)
                            · skip
                              refine xl_pure rfl rfl rfl (pv_pick_f (v := .bool _) rfl rfl rfl) ?_
                              refine xl_pure rfl rfl rfl (pv_move (v := .bool _) rfl rfl) ?_
                              refine xl_pure rfl rfl rfl (pv_move (v := .slice _ _ _) rfl rfl) ?_
                              refine xl_heavy rfl rfl rfl (hv_call (g := 24) rfl rfl (c24 l23_5 _ _ (hR23_5.ext hX23_5) hp) rfl) ?_
                              rintro v27_8 H27_8 ⟨rfl, hE27_8⟩
                              have m4_6 := m4_6.ext hE27_8
                              have m24_9 := m24_9.ext hE27_8
                              have hX := hX.trans hE27_8
                              have hX23_5 := hX23_5.trans hE27_8
                              refine xl_pure rfl rfl rfl (pv_move (v := .int _ _) rfl rfl) ?_
                              refine xl_ndec rfl rfl rfl (pv_neq rfl rfl rfl) (fun h27_10 => ?_) (fun h27_10 => ?_)
                              · skip
                                refine xl_pure rfl rfl rfl (pv_pick_f (v := .bool _) rfl rfl rfl) ?_
                                refine xl_pure rfl rfl rfl (pv_move (v := .bool _) rfl rfl) ?_
                                refine xl_light rfl rfl rfl (lv_load (v := .agg _) rfl rfl (ld_blk_a m24_9 rfl rfl)) ?_
                                refine xl_heavy rfl rfl rfl (hv_call (g := 22) rfl rfl (c22 { y with st := (es.getD i 0), due := 0 } _ _ _ _) rfl) ?_
                                rintro v27_14 H27_14 ⟨r27_14, rfl, hb27_14, hE27_14⟩
                                have m4_6 := m4_6.ext hE27_14
                                have m24_9 := m24_9.ext hE27_14
                                have hX := hX.trans hE27_14
                                have hX23_5 := hX23_5.trans hE27_14
                                obtain rfl : r27_14 = true := hb27_14.2 hso
                                refine xl_pure rfl rfl rfl (pv_not rfl rfl) ?_
                                refine xl_pure rfl rfl rfl (pv_pick_f (v := .bool _) rfl rfl rfl) ?_
                                refine xl_nil ?_
                                refine xthen_normal ?_
                                refine xc_cond_f rfl ?_
                                refine xc_skip ?_
                                refine xthen_normal ?_
                                refine xc_region ?_
                                refine xl_light rfl rfl rfl (lv_load (v := .agg _) rfl rfl (ld_blk_a m24_9 rfl rfl)) ?_
                                refine xl_store rfl rfl (hv_storeA (vs := [.int _ _, .int _ _, .int _ _, .int _ _, .int _ _, .int _ _, .int _ _, .int _ _, .int _ _, .int _ _, .int _ _, .int _ _, .int _ _, .slice _ _ _, .slice _ _ _, .int _ _, .int _ _, .int _ _, .int _ _]) rfl rfl rfl (m4_6) rfl (by rfl) rfl) ?_
                                rintro v29_1 H29_1 ⟨hU29_1, hZ29_1⟩
                                have m24_9 := m24_9.off hU29_1.but (nm4_6_24_9.symm)
                                have hX := hX.upd hU29_1.but gb4_6
                                have m4_6 := hU29_1.blk
                                refine xl_nil ?_
                                refine xthen_normal ?_
                                refine xc_seq ?_
                                refine xc_region ?_
                                refine xl_light rfl rfl rfl (lv_load (v := .agg _) rfl rfl (ld_blk_a m4_6 rfl rfl)) ?_
                                refine xl_heavy rfl rfl rfl (hv_call (g := 20) rfl rfl (c20 { y with st := (es.getD i 0), due := 0 } _ _ _ _ (Stks.ext (res_g (res_trans hrs hs24_5) hs) hX) (Stks.ext (res_w (res_trans hrs hs24_5) hs') hX) (res_gl (res_trans hrs hs24_5) (by omega)) (res_wl (res_trans hrs hs24_5) (by omega))) rfl) ?_
                                rintro v30_1 H30_1 ⟨e30_1, rfl, hg30_1, hE30_1⟩
                                have m4_6 := m4_6.ext hE30_1
                                have m24_9 := m24_9.ext hE30_1
                                have hX := hX.trans hE30_1
                                obtain rfl : e30_1 = 0 := (hg30_1.resolve_right (fun h => h.1 (end_good hon.good hE))).2
                                refine xl_ndec rfl rfl rfl (pv_neq rfl rfl rfl) (fun h30_2 => ?_) (fun h30_2 => ?_)
                                · skip
                                  refine xl_nil ?_
                                  refine xthen_normal ?_
                                  refine xc_cond_f rfl ?_
                                  refine xc_skip ?_
                                  refine xblock_normal ?_
                                  refine xthen_normal ?_
                                  refine xc_region ?_
                                  refine xl_pure rfl rfl rfl (pv_move (v := .int _ _) rfl rfl) ?_
                                  refine xl_pure rfl rfl rfl (pv_add rfl rfl rfl (fit_i64 (by omega))) ?_
                                  refine xl_pure rfl rfl rfl (pv_assign (v := .int _ _) rfl rfl) ?_
                                  refine xl_nil ?_
                                  refine xthen_normal ?_
                                  first
                                    | exact ⟨(_, _, _, _, _, ov + 1, i + 1), ⟨rfl, rfl, rfl, rfl, rfl, trivial⟩, ⟨by (try simp only); omega, once_1 hon2 hov, res_trans hrs hs24_5, m4_6, hX⟩, by (try simp only); omega⟩
                                    | exact ⟨(_, _, _, _, _, _, i + 1), ⟨rfl, rfl, rfl, rfl, rfl, trivial⟩, ⟨by (try simp only); omega, hon, hrs, m4_6, hX⟩, by (try simp only); omega⟩
                                · exact absurd (by decide) h30_2
                              · exact absurd (by omega) h27_10
                            · exact absurd rfl h27_4
                        · exact absurd (by decide) h25_1
                      · skip
                        refine xp_pure (i := 6) rfl (by kernel_rfl) (by kernel_rfl) rfl rfl rfl (pv_move (v := .tuple _) rfl rfl) ?_
                        refine xp_pure (i := 7) rfl (by kernel_rfl) (by kernel_rfl) rfl rfl rfl (pv_extract (v := .agg _) rfl rfl rfl) ?_
                        refine xp_pure (i := 8) rfl (by kernel_rfl) (by kernel_rfl) rfl rfl rfl (pv_extract (v := .int _ _) rfl rfl rfl) ?_
                        refine xp_heavy (i := 9) (by kernel_rfl) ?_
                        refine xph_val rfl rfl rfl rfl (hv_alloc rfl rfl) pn ?_
                        rintro v24_9 H24_9 ⟨b24_9, rfl, hN24_9⟩
                        have gb24_9 := hX.fresh hN24_9
                        have gb24_9_hX23_5 := hX23_5.fresh hN24_9
                        have nm4_6_24_9 := m4_6.apart hN24_9
                        have m4_6 := m4_6.ext hN24_9.ext
                        have hX := hX.trans hN24_9.ext
                        have hX23_5 := hX23_5.trans hN24_9.ext
                        have m24_9 := hN24_9.blk
                        refine ⟨okn, ?_⟩
                        refine xp_heavy (i := 10) (by kernel_rfl) ?_
                        refine xph_store rfl rfl rfl (hv_storeA (vs := [.int _ _, .int _ _, .int _ _, .int _ _, .int _ _, .int _ _, .int _ _, .int _ _, .int _ _, .int _ _, .int _ _, .int _ _, .int _ _, .slice _ _ _, .slice _ _ _, .int _ _, .int _ _, .int _ _, .int _ _]) rfl rfl rfl (m24_9) rfl (by rfl) rfl) pn ?_
                        rintro v24_10 H24_10 ⟨hU24_10, hZ24_10⟩
                        have hX23_5 := hX23_5.upd hU24_10.but gb24_9_hX23_5
                        have m4_6 := m4_6.off hU24_10.but (nm4_6_24_9)
                        have hX := hX.upd hU24_10.but gb24_9
                        have m24_9 := hU24_10.blk
                        refine ⟨okn, ?_⟩
                        refine xp_pure (i := 11) rfl (by kernel_rfl) (by kernel_rfl) rfl rfl rfl (pv_assign (v := .int _ _) rfl rfl) ?_
                        refine xp_done (by kernel_rfl) ?_
                        refine xthen_normal ?_
                        refine xc_seq ?_
                        refine xc_seq ?_
                        refine xc_region ?_
                        refine xl_pure rfl rfl rfl (pv_move (v := .int _ _) rfl rfl) ?_
                        refine xl_dec rfl rfl rfl (pv_eql rfl rfl rfl) (fun h25_1 => ?_) (fun h25_1 => ?_)
                        · exact absurd h25_1 hr24_5
                        · skip
                          refine xl_nil ?_
                          refine xthen_normal ?_
                          refine xc_cond_f rfl ?_
                          refine xc_skip ?_
                          refine xthen_normal ?_
                          refine xc_seq ?_
                          refine xc_region ?_
                          refine xl_light rfl rfl rfl (lv_load (v := .agg _) rfl rfl (ld_blk_a m4_6 rfl rfl)) ?_
                          refine xl_heavy rfl rfl rfl (hv_call (g := 20) rfl rfl (c20 y _ _ _ _ (Stks.ext (res_g hrs hs) hX) (Stks.ext (res_w hrs hs') hX) (res_gl hrs (by omega)) (res_wl hrs (by omega))) rfl) ?_
                          rintro v30_1 H30_1 ⟨e30_1, rfl, hg30_1, hE30_1⟩
                          have m4_6 := m4_6.ext hE30_1
                          have m24_9 := m24_9.ext hE30_1
                          have hX := hX.trans hE30_1
                          have hX23_5 := hX23_5.trans hE30_1
                          obtain rfl : e30_1 = 0 := (hg30_1.resolve_right (fun h => h.1 hon.good)).2
                          refine xl_ndec rfl rfl rfl (pv_neq rfl rfl rfl) (fun h30_2 => ?_) (fun h30_2 => ?_)
                          · skip
                            refine xl_nil ?_
                            refine xthen_normal ?_
                            refine xc_cond_f rfl ?_
                            refine xc_skip ?_
                            refine xblock_normal ?_
                            refine xthen_normal ?_
                            refine xc_region ?_
                            refine xl_pure rfl rfl rfl (pv_move (v := .int _ _) rfl rfl) ?_
                            refine xl_pure rfl rfl rfl (pv_add rfl rfl rfl (fit_i64 (by omega))) ?_
                            refine xl_pure rfl rfl rfl (pv_assign (v := .int _ _) rfl rfl) ?_
                            refine xl_nil ?_
                            refine xthen_normal ?_
                            first
                              | exact ⟨(_, _, _, _, _, ov + 1, i + 1), ⟨rfl, rfl, rfl, rfl, rfl, trivial⟩, ⟨by (try simp only); omega, once_1 hon2 hov, res_trans hrs hs24_5, m4_6, hX⟩, by (try simp only); omega⟩
                              | exact ⟨(_, _, _, _, _, _, i + 1), ⟨rfl, rfl, rfl, rfl, rfl, trivial⟩, ⟨by (try simp only); omega, hon, hrs, m4_6, hX⟩, by (try simp only); omega⟩
                          · exact absurd (by decide) h30_2
                    · skip
                      refine xph_val rfl rfl rfl rfl (hv_alloc rfl rfl) (pk (by kernel_rfl) (pk (by kernel_rfl) pn)) ?_
                      rintro v24_9 H24_9 ⟨b24_9, rfl, hN24_9⟩
                      have gb24_9 := hX.fresh hN24_9
                      have gb24_9_hX23_5 := hX23_5.fresh hN24_9
                      have nm4_6_24_9 := m4_6.apart hN24_9
                      have m4_6 := m4_6.ext hN24_9.ext
                      have hX := hX.trans hN24_9.ext
                      have hX23_5 := hX23_5.trans hN24_9.ext
                      have m24_9 := hN24_9.blk
                      refine ⟨(okc (lv_load (v := .int _ _) rfl rfl (by exact cellAt_ext (hea i (by omega)) hX)) (okc (lv_load (v := .agg _) rfl rfl (ld_blk_a m4_6 rfl rfl)) okn)), ?_⟩
                      refine xp_heavy (i := 5) (by kernel_rfl) ?_
                      refine xph_val rfl rfl rfl rfl (hv_call (g := 12) rfl rfl (c12 y _ _ _ _ (es.getD i 0) (res_g hrs (hs.ext hX)) (res_w hrs (hs'.ext hX)) (res_gl hrs (by omega)) (res_wl hrs (by omega))) rfl) (pd (by kernel_rfl) (pd (by kernel_rfl) pn)) ?_
                      rintro v24_5 H24_5 ⟨r24_5, x24_5, a24_5, b24_5, c24_5, e24_5, rfl, hd24_5, hs24_5, hE24_5⟩
                      have m4_6 := m4_6.ext hE24_5
                      have m24_9 := m24_9.ext hE24_5
                      have hX := hX.trans hE24_5
                      have hX23_5 := hX23_5.trans hE24_5
                      refine ⟨okn, ?_⟩
                      by_cases hr24_5 : r24_5 = 0
                      · skip
                        subst hr24_5
                        obtain ⟨hE, rfl⟩ := end_cases hon.good hd24_5.symm rfl
                        obtain ⟨l', hl', hp, ht⟩ := end_all hon.good hE
                        have q24_5 := hd23_5.trans hl'
                        simp only [Prod.mk.injEq] at q24_5
                        obtain ⟨rfl, rfl⟩ := q24_5
                        obtain ⟨hov, hlk, hon2⟩ := once_end hon hE
                        have hso := ends_over hE
                        refine xp_pure (i := 6) rfl (by kernel_rfl) (by kernel_rfl) rfl rfl rfl (pv_move (v := .tuple _) rfl rfl) ?_
                        refine xp_pure (i := 7) rfl (by kernel_rfl) (by kernel_rfl) rfl rfl rfl (pv_extract (v := .agg _) rfl rfl rfl) ?_
                        refine xp_pure (i := 8) rfl (by kernel_rfl) (by kernel_rfl) rfl rfl rfl (pv_extract (v := .int _ _) rfl rfl rfl) ?_
                        refine xp_heavy (i := 10) (by kernel_rfl) ?_
                        refine xph_store rfl rfl rfl (hv_storeA (vs := [.int _ _, .int _ _, .int _ _, .int _ _, .int _ _, .int _ _, .int _ _, .int _ _, .int _ _, .int _ _, .int _ _, .int _ _, .int _ _, .slice _ _ _, .slice _ _ _, .int _ _, .int _ _, .int _ _, .int _ _]) rfl rfl rfl (m24_9) rfl (by rfl) rfl) pn ?_
                        rintro v24_10 H24_10 ⟨hU24_10, hZ24_10⟩
                        have hX23_5 := hX23_5.upd hU24_10.but gb24_9_hX23_5
                        have m4_6 := m4_6.off hU24_10.but (nm4_6_24_9)
                        have hX := hX.upd hU24_10.but gb24_9
                        have m24_9 := hU24_10.blk
                        refine ⟨okn, ?_⟩
                        refine xp_pure (i := 11) rfl (by kernel_rfl) (by kernel_rfl) rfl rfl rfl (pv_assign (v := .int _ _) rfl rfl) ?_
                        refine xp_done (by kernel_rfl) ?_
                        refine xthen_normal ?_
                        refine xc_seq ?_
                        refine xc_seq ?_
                        refine xc_region ?_
                        refine xl_pure rfl rfl rfl (pv_move (v := .int _ _) rfl rfl) ?_
                        refine xl_dec rfl rfl rfl (pv_eql rfl rfl rfl) (fun h25_1 => ?_) (fun h25_1 => ?_)
                        · skip
                          refine xl_nil ?_
                          refine xthen_normal ?_
                          refine xc_cond_t rfl ?_
                          refine xc_seq ?_
                          refine xc_region ?_
                          refine xl_pure rfl rfl rfl (pv_move (v := .int _ _) rfl rfl) ?_
                          refine xl_pure rfl rfl rfl (pv_add rfl rfl rfl (fit_i64 (by omega))) ?_
                          refine xl_pure rfl rfl rfl (pv_assign (v := .int _ _) rfl rfl) ?_
                          refine xl_nil ?_
                          refine xthen_normal ?_
                          refine xc_seq ?_
                          refine xc_seq ?_
                          refine xc_region ?_
                          refine xl_pure rfl rfl rfl (pv_move (v := .int _ _) rfl rfl) ?_
                          refine xl_dec rfl rfl rfl (pv_gtr rfl rfl rfl) (fun h27_1 => ?_) (fun h27_1 => ?_)
                          · exact absurd h27_1 (by omega)
                          · skip
                            refine xl_pure rfl rfl rfl (pv_move (v := .bool _) rfl rfl) ?_
                            refine xl_pure rfl rfl rfl (pv_move (v := .int _ _) rfl rfl) ?_
                            refine xl_ndec rfl rfl rfl (pv_neq rfl rfl rfl) (fun h27_4 => ?_) (fun h27_4 => ?_)
                            · skip
                              refine xl_pure rfl rfl rfl (pv_pick_f (v := .bool _) rfl rfl rfl) ?_
                              refine xl_pure rfl rfl rfl (pv_move (v := .bool _) rfl rfl) ?_
                              refine xl_pure rfl rfl rfl (pv_move (v := .slice _ _ _) rfl rfl) ?_
                              refine xl_heavy rfl rfl rfl (hv_call (g := 24) rfl rfl (c24 l23_5 _ _ (hR23_5.ext hX23_5) hp) rfl) ?_
                              rintro v27_8 H27_8 ⟨rfl, hE27_8⟩
                              have m4_6 := m4_6.ext hE27_8
                              have m24_9 := m24_9.ext hE27_8
                              have hX := hX.trans hE27_8
                              have hX23_5 := hX23_5.trans hE27_8
                              refine xl_pure rfl rfl rfl (pv_move (v := .int _ _) rfl rfl) ?_
                              refine xl_ndec rfl rfl rfl (pv_neq rfl rfl rfl) (fun h27_10 => ?_) (fun h27_10 => ?_)
                              · skip
                                refine xl_pure rfl rfl rfl (pv_pick_f (v := .bool _) rfl rfl rfl) ?_
                                refine xl_pure rfl rfl rfl (pv_move (v := .bool _) rfl rfl) ?_
                                refine xl_light rfl rfl rfl (lv_load (v := .agg _) rfl rfl (ld_blk_a m24_9 rfl rfl)) ?_
                                refine xl_heavy rfl rfl rfl (hv_call (g := 22) rfl rfl (c22 { y with st := (es.getD i 0), due := 0 } _ _ _ _) rfl) ?_
                                rintro v27_14 H27_14 ⟨r27_14, rfl, hb27_14, hE27_14⟩
                                have m4_6 := m4_6.ext hE27_14
                                have m24_9 := m24_9.ext hE27_14
                                have hX := hX.trans hE27_14
                                have hX23_5 := hX23_5.trans hE27_14
                                obtain rfl : r27_14 = true := hb27_14.2 hso
                                refine xl_pure rfl rfl rfl (pv_not rfl rfl) ?_
                                refine xl_pure rfl rfl rfl (pv_pick_f (v := .bool _) rfl rfl rfl) ?_
                                refine xl_nil ?_
                                refine xthen_normal ?_
                                refine xc_cond_f rfl ?_
                                refine xc_skip ?_
                                refine xthen_normal ?_
                                refine xc_region ?_
                                refine xl_light rfl rfl rfl (lv_load (v := .agg _) rfl rfl (ld_blk_a m24_9 rfl rfl)) ?_
                                refine xl_store rfl rfl (hv_storeA (vs := [.int _ _, .int _ _, .int _ _, .int _ _, .int _ _, .int _ _, .int _ _, .int _ _, .int _ _, .int _ _, .int _ _, .int _ _, .int _ _, .slice _ _ _, .slice _ _ _, .int _ _, .int _ _, .int _ _, .int _ _]) rfl rfl rfl (m4_6) rfl (by rfl) rfl) ?_
                                rintro v29_1 H29_1 ⟨hU29_1, hZ29_1⟩
                                have m24_9 := m24_9.off hU29_1.but (nm4_6_24_9.symm)
                                have hX := hX.upd hU29_1.but gb4_6
                                have m4_6 := hU29_1.blk
                                refine xl_nil ?_
                                refine xthen_normal ?_
                                refine xc_seq ?_
                                refine xc_region ?_
                                refine xl_light rfl rfl rfl (lv_load (v := .agg _) rfl rfl (ld_blk_a m4_6 rfl rfl)) ?_
                                refine xl_heavy rfl rfl rfl (hv_call (g := 20) rfl rfl (c20 { y with st := (es.getD i 0), due := 0 } _ _ _ _ (Stks.ext (res_g (res_trans hrs hs24_5) hs) hX) (Stks.ext (res_w (res_trans hrs hs24_5) hs') hX) (res_gl (res_trans hrs hs24_5) (by omega)) (res_wl (res_trans hrs hs24_5) (by omega))) rfl) ?_
                                rintro v30_1 H30_1 ⟨e30_1, rfl, hg30_1, hE30_1⟩
                                have m4_6 := m4_6.ext hE30_1
                                have m24_9 := m24_9.ext hE30_1
                                have hX := hX.trans hE30_1
                                obtain rfl : e30_1 = 0 := (hg30_1.resolve_right (fun h => h.1 (end_good hon.good hE))).2
                                refine xl_ndec rfl rfl rfl (pv_neq rfl rfl rfl) (fun h30_2 => ?_) (fun h30_2 => ?_)
                                · skip
                                  refine xl_nil ?_
                                  refine xthen_normal ?_
                                  refine xc_cond_f rfl ?_
                                  refine xc_skip ?_
                                  refine xblock_normal ?_
                                  refine xthen_normal ?_
                                  refine xc_region ?_
                                  refine xl_pure rfl rfl rfl (pv_move (v := .int _ _) rfl rfl) ?_
                                  refine xl_pure rfl rfl rfl (pv_add rfl rfl rfl (fit_i64 (by omega))) ?_
                                  refine xl_pure rfl rfl rfl (pv_assign (v := .int _ _) rfl rfl) ?_
                                  refine xl_nil ?_
                                  refine xthen_normal ?_
                                  first
                                    | exact ⟨(_, _, _, _, _, ov + 1, i + 1), ⟨rfl, rfl, rfl, rfl, rfl, trivial⟩, ⟨by (try simp only); omega, once_1 hon2 hov, res_trans hrs hs24_5, m4_6, hX⟩, by (try simp only); omega⟩
                                    | exact ⟨(_, _, _, _, _, _, i + 1), ⟨rfl, rfl, rfl, rfl, rfl, trivial⟩, ⟨by (try simp only); omega, hon, hrs, m4_6, hX⟩, by (try simp only); omega⟩
                                · exact absurd (by decide) h30_2
                              · exact absurd (by omega) h27_10
                            · exact absurd rfl h27_4
                        · exact absurd (by decide) h25_1
                      · skip
                        refine xp_pure (i := 6) rfl (by kernel_rfl) (by kernel_rfl) rfl rfl rfl (pv_move (v := .tuple _) rfl rfl) ?_
                        refine xp_pure (i := 7) rfl (by kernel_rfl) (by kernel_rfl) rfl rfl rfl (pv_extract (v := .agg _) rfl rfl rfl) ?_
                        refine xp_pure (i := 8) rfl (by kernel_rfl) (by kernel_rfl) rfl rfl rfl (pv_extract (v := .int _ _) rfl rfl rfl) ?_
                        refine xp_heavy (i := 10) (by kernel_rfl) ?_
                        refine xph_store rfl rfl rfl (hv_storeA (vs := [.int _ _, .int _ _, .int _ _, .int _ _, .int _ _, .int _ _, .int _ _, .int _ _, .int _ _, .int _ _, .int _ _, .int _ _, .int _ _, .slice _ _ _, .slice _ _ _, .int _ _, .int _ _, .int _ _, .int _ _]) rfl rfl rfl (m24_9) rfl (by rfl) rfl) pn ?_
                        rintro v24_10 H24_10 ⟨hU24_10, hZ24_10⟩
                        have hX23_5 := hX23_5.upd hU24_10.but gb24_9_hX23_5
                        have m4_6 := m4_6.off hU24_10.but (nm4_6_24_9)
                        have hX := hX.upd hU24_10.but gb24_9
                        have m24_9 := hU24_10.blk
                        refine ⟨okn, ?_⟩
                        refine xp_pure (i := 11) rfl (by kernel_rfl) (by kernel_rfl) rfl rfl rfl (pv_assign (v := .int _ _) rfl rfl) ?_
                        refine xp_done (by kernel_rfl) ?_
                        refine xthen_normal ?_
                        refine xc_seq ?_
                        refine xc_seq ?_
                        refine xc_region ?_
                        refine xl_pure rfl rfl rfl (pv_move (v := .int _ _) rfl rfl) ?_
                        refine xl_dec rfl rfl rfl (pv_eql rfl rfl rfl) (fun h25_1 => ?_) (fun h25_1 => ?_)
                        · exact absurd h25_1 hr24_5
                        · skip
                          refine xl_nil ?_
                          refine xthen_normal ?_
                          refine xc_cond_f rfl ?_
                          refine xc_skip ?_
                          refine xthen_normal ?_
                          refine xc_seq ?_
                          refine xc_region ?_
                          refine xl_light rfl rfl rfl (lv_load (v := .agg _) rfl rfl (ld_blk_a m4_6 rfl rfl)) ?_
                          refine xl_heavy rfl rfl rfl (hv_call (g := 20) rfl rfl (c20 y _ _ _ _ (Stks.ext (res_g hrs hs) hX) (Stks.ext (res_w hrs hs') hX) (res_gl hrs (by omega)) (res_wl hrs (by omega))) rfl) ?_
                          rintro v30_1 H30_1 ⟨e30_1, rfl, hg30_1, hE30_1⟩
                          have m4_6 := m4_6.ext hE30_1
                          have m24_9 := m24_9.ext hE30_1
                          have hX := hX.trans hE30_1
                          have hX23_5 := hX23_5.trans hE30_1
                          obtain rfl : e30_1 = 0 := (hg30_1.resolve_right (fun h => h.1 hon.good)).2
                          refine xl_ndec rfl rfl rfl (pv_neq rfl rfl rfl) (fun h30_2 => ?_) (fun h30_2 => ?_)
                          · skip
                            refine xl_nil ?_
                            refine xthen_normal ?_
                            refine xc_cond_f rfl ?_
                            refine xc_skip ?_
                            refine xblock_normal ?_
                            refine xthen_normal ?_
                            refine xc_region ?_
                            refine xl_pure rfl rfl rfl (pv_move (v := .int _ _) rfl rfl) ?_
                            refine xl_pure rfl rfl rfl (pv_add rfl rfl rfl (fit_i64 (by omega))) ?_
                            refine xl_pure rfl rfl rfl (pv_assign (v := .int _ _) rfl rfl) ?_
                            refine xl_nil ?_
                            refine xthen_normal ?_
                            first
                              | exact ⟨(_, _, _, _, _, ov + 1, i + 1), ⟨rfl, rfl, rfl, rfl, rfl, trivial⟩, ⟨by (try simp only); omega, once_1 hon2 hov, res_trans hrs hs24_5, m4_6, hX⟩, by (try simp only); omega⟩
                              | exact ⟨(_, _, _, _, _, _, i + 1), ⟨rfl, rfl, rfl, rfl, rfl, trivial⟩, ⟨by (try simp only); omega, hon, hrs, m4_6, hX⟩, by (try simp only); omega⟩
                          · exact absurd (by decide) h30_2
                  · skip
                    refine xl_nil ?_
                    refine xthen_normal ?_
                    refine xc_cond_f rfl ?_
                    refine xc_exit ?_
                    refine xthen_exit ?_
                    refine xthen_exit ?_
                    refine xblock_same ?_
                    refine xthen_normal ?_
                    refine xc_seq ?_
                    refine xc_region ?_
                    refine xl_light rfl rfl rfl (lv_load (v := .agg _) rfl rfl (ld_blk_a m4_6 rfl rfl)) ?_
                    refine xl_heavy rfl rfl rfl (hv_call (g := 14) rfl rfl (c14 y _ _ _ _ (res_g hrs (hs.ext hX)) (res_w hrs (hs'.ext hX)) (res_gl hrs (by omega)) (res_wl hrs (by omega))) rfl) ?_
                    rintro v32_1 H32_1 ⟨n32_1, r32_1, rfl, hd32_1, hE32_1⟩
                    have m4_6 := m4_6.ext hE32_1
                    have hX := hX.trans hE32_1
                    have hli := late_iff hon hd32_1
                    refine xl_pure rfl rfl rfl (pv_move (v := .tuple _) rfl rfl) ?_
                    refine xl_pure rfl rfl rfl (pv_extract (v := .int _ _) rfl rfl rfl) ?_
                    refine xl_pure rfl rfl rfl (pv_extract (v := .int _ _) rfl rfl rfl) ?_
                    refine xl_pure rfl rfl rfl (pv_assign (v := .int _ _) rfl rfl) ?_
                    refine xl_pure rfl rfl rfl (pv_assign (v := .int _ _) rfl rfl) ?_
                    refine xl_nil ?_
                    refine xthen_normal ?_
                    refine xc_seq ?_
                    refine xc_region ?_
                    refine xl_pure rfl rfl rfl (pv_move (v := .int _ _) rfl rfl) ?_
                    refine xl_dec rfl rfl rfl (pv_eql rfl rfl rfl) (fun h33_1 => ?_) (fun h33_1 => ?_)
                    · skip
                      refine xl_pure rfl rfl rfl (pv_move (v := .int _ _) rfl rfl) ?_
                      refine xl_dec rfl rfl rfl (pv_eql rfl rfl rfl) (fun h33_3 => ?_) (fun h33_3 => ?_)
                      · first
                        | (exfalso; omega)
                        |  (skip
                            refine xl_pure rfl rfl rfl (pv_eql_b rfl rfl rfl) ?_
                            refine xl_pure rfl rfl rfl (pv_move (v := .bool _) rfl rfl) ?_
                            refine xl_heavy rfl rfl rfl (hv_call (g := 7) rfl rfl (c7) rfl) ?_
                            rintro v33_6 H33_6 ⟨rfl, hE33_6⟩
                            have m4_6 := m4_6.ext hE33_6
                            have hX := hX.trans hE33_6
                            refine xl_pure rfl rfl rfl (pv_pick_t (v := .bool _) rfl rfl rfl) ?_
                            refine xl_pure rfl rfl rfl (pv_assign (v := .bool _) rfl rfl) ?_
                            refine xl_nil ?_
                            refine xthen_normal ?_
                            refine xc_ret ?_
                            refine fin_ret (res1 (v := .bool _) rfl rfl) ?_
                            exact ⟨rfl, hX⟩)
                      · first
                        | (exfalso; omega)
                        |  (skip
                            refine xl_pure rfl rfl rfl (pv_eql_b rfl rfl rfl) ?_
                            refine xl_pure rfl rfl rfl (pv_move (v := .bool _) rfl rfl) ?_
                            refine xl_skip rfl rfl rfl ?_
                            refine xl_pure rfl rfl rfl (pv_pick_f (v := .bool _) rfl rfl rfl) ?_
                            refine xl_pure rfl rfl rfl (pv_assign (v := .bool _) rfl rfl) ?_
                            refine xl_nil ?_
                            refine xthen_normal ?_
                            refine xc_ret ?_
                            refine fin_ret (res1 (v := .bool _) rfl rfl) ?_
                            exact ⟨rfl, hX⟩)
                    · skip
                      refine xl_pure rfl rfl rfl (pv_move (v := .int _ _) rfl rfl) ?_
                      refine xl_dec rfl rfl rfl (pv_eql rfl rfl rfl) (fun h33_3 => ?_) (fun h33_3 => ?_)
                      · first
                        | (exfalso; omega)
                        |  (skip
                            refine xl_pure rfl rfl rfl (pv_eql_b rfl rfl rfl) ?_
                            refine xl_pure rfl rfl rfl (pv_move (v := .bool _) rfl rfl) ?_
                            refine xl_skip rfl rfl rfl ?_
                            refine xl_pure rfl rfl rfl (pv_pick_f (v := .bool _) rfl rfl rfl) ?_
                            refine xl_pure rfl rfl rfl (pv_assign (v := .bool _) rfl rfl) ?_
                            refine xl_nil ?_
                            refine xthen_normal ?_
                            refine xc_ret ?_
                            refine fin_ret (res1 (v := .bool _) rfl rfl) ?_
                            exact ⟨rfl, hX⟩)
                      · first
                        | (exfalso; omega)
                        |  (skip
                            refine xl_pure rfl rfl rfl (pv_eql_b rfl rfl rfl) ?_
                            refine xl_pure rfl rfl rfl (pv_move (v := .bool _) rfl rfl) ?_
                            refine xl_heavy rfl rfl rfl (hv_call (g := 7) rfl rfl (c7) rfl) ?_
                            rintro v33_6 H33_6 ⟨rfl, hE33_6⟩
                            have m4_6 := m4_6.ext hE33_6
                            have hX := hX.trans hE33_6
                            refine xl_pure rfl rfl rfl (pv_pick_t (v := .bool _) rfl rfl rfl) ?_
                            refine xl_pure rfl rfl rfl (pv_assign (v := .bool _) rfl rfl) ?_
                            refine xl_nil ?_
                            refine xthen_normal ?_
                            refine xc_ret ?_
                            refine fin_ret (res1 (v := .bool _) rfl rfl) ?_
                            exact ⟨rfl, hX⟩)
            · skip
              refine xl_pure rfl rfl rfl (pv_move (v := .tuple _) rfl rfl) ?_
              refine xl_pure rfl rfl rfl (pv_extract (v := .agg _) rfl rfl rfl) ?_
              refine xl_pure rfl rfl rfl (pv_extract (v := .int _ _) rfl rfl rfl) ?_
              refine xl_heavy rfl rfl rfl (hv_alloc rfl rfl) ?_
              rintro v10_10 H10_10 ⟨b10_10, rfl, hN10_10⟩
              have gb10_10 := hX.fresh hN10_10
              have nm0_1_10_10 := m0_1.apart hN10_10
              have nm4_6_10_10 := m4_6.apart hN10_10
              have m0_1 := m0_1.ext hN10_10.ext
              have m4_6 := m4_6.ext hN10_10.ext
              have hX := hX.trans hN10_10.ext
              have m10_10 := hN10_10.blk
              refine xl_store rfl rfl (hv_storeA (vs := [.int _ _, .int _ _, .int _ _, .int _ _, .int _ _, .int _ _, .int _ _, .int _ _, .int _ _, .int _ _, .int _ _, .int _ _, .int _ _, .slice _ _ _, .slice _ _ _, .int _ _, .int _ _, .int _ _, .int _ _]) rfl rfl rfl (m10_10) rfl (by rfl) rfl) ?_
              rintro v10_11 H10_11 ⟨hU10_11, hZ10_11⟩
              have m0_1 := m0_1.off hU10_11.but (nm0_1_10_10)
              have m4_6 := m4_6.off hU10_11.but (nm4_6_10_10)
              have hX := hX.upd hU10_11.but gb10_10
              have m10_10 := hU10_11.blk
              refine xl_pure rfl rfl rfl (pv_assign (v := .int _ _) rfl rfl) ?_
              refine xl_nil ?_
              refine xthen_normal ?_
              refine xc_seq ?_
              refine xc_region ?_
              refine xl_pure rfl rfl rfl (pv_assign (v := .int _ _) rfl rfl) ?_
              refine xl_nil ?_
              refine xthen_normal ?_
              refine xc_cut (τ := D × Option Addr × Option Addr × Nat × Nat × Int × Int) (fun t => [(2, .slice ea (List.length es) ec), (8, .pointer (some ⟨b4_6, 0, none⟩)), (10, .int .i64 t.2.2.2.2.2.2), (13, .int .i64 t.2.2.2.2.2.1)]) (fun t H' => (Once t.1 t.2.2.2.2.2.1 t.2.2.2.2.2.2) ∧ (Res d t.1 a b t.2.1 t.2.2.1) ∧ (Blk H' b4_6 (dcs t.1 t.2.1 t.2.2.1 t.2.2.2.1 t.2.2.2.2.1) 24) ∧ (Ext H H')) ?_ ?_
              · skip
                refine xc_seq ?_
                refine xc_region ?_
                refine xl_pure rfl rfl rfl (pv_move (v := .int _ _) rfl rfl) ?_
                refine xl_dec rfl rfl rfl (pv_eql rfl rfl rfl) (fun h12_1 => ?_) (fun h12_1 => ?_)
                · exact absurd h12_1 hr10_6
                · skip
                  refine xl_nil ?_
                  refine xthen_normal ?_
                  refine xc_cond_f rfl ?_
                  refine xc_skip ?_
                  refine xthen_normal ?_
                  first
                    | exact ⟨(_, _, _, _, _, _, _), ⟨rfl, rfl, rfl, rfl, trivial⟩, ⟨once_sold hgt (taken_st2 h13_2) (by (try simp only); omega) (by have := locked_big hgx; (try simp only); omega), res_taken hs4_2 hs10_6, m4_6, hX⟩⟩
                    | exact ⟨(_, _, _, _, _, _, _), ⟨rfl, rfl, rfl, rfl, trivial⟩, ⟨once_tk hgt hst1 h13_2 hlk, res_taken hs4_2 hs10_6, m4_6, hX⟩⟩
                    | exact ⟨(_, _, _, _, _, _, _), ⟨rfl, rfl, rfl, rfl, trivial⟩, ⟨once_open hgx hst1 hlk, hs4_2, m4_6, hX⟩⟩
              · intro σ
                clear hX m0_1 m4_6 m10_10
                rintro ⟨y, ya, yb, yc, ye, ov, lk⟩ Hm12 ⟨hon, hrs, m4_6, hX⟩
                replace hon : Once y ov lk := hon
                replace hrs : Res d y a b ya yb := hrs
                replace m4_6 : Blk Hm12 b4_6 (dcs y ya yb yc ye) 24 := m4_6
                replace hX : Ext H Hm12 := hX
                show XC _ _ _ (upds σ [(2, .slice ea (List.length es) ec), (8, .pointer (some ⟨b4_6, 0, none⟩)), (10, .int .i64 lk), (13, .int .i64 ov)]) _
                refine xc_seq ?_
                refine xc_seq ?_
                refine xc_region ?_
                refine xl_pure rfl rfl rfl (pv_assign (v := .int _ _) rfl rfl) ?_
                refine xl_nil ?_
                refine xthen_normal ?_
                refine xc_block ?_
                refine xc_loop (τ := D × Option Addr × Option Addr × Nat × Nat × Int × Nat) (fun t => [(2, .slice ea (List.length es) ec), (8, .pointer (some ⟨b4_6, 0, none⟩)), (10, .int .i64 lk), (13, .int .i64 t.2.2.2.2.2.1), (16, .int .i64 (t.2.2.2.2.2.2 : Nat))]) (fun t H' => (t.2.2.2.2.2.2 ≤ es.length) ∧ (Once t.1 t.2.2.2.2.2.1 lk) ∧ (Res d t.1 a b t.2.1 t.2.2.1) ∧ (Blk H' b4_6 (dcs t.1 t.2.1 t.2.2.1 t.2.2.2.1 t.2.2.2.2.1) 24) ∧ (Ext H H')) (fun t H' => es.length - t.2.2.2.2.2.2) (y, ya, yb, yc, ye, ov, 0) ?_ ?_ ?_
                · exact ⟨rfl, rfl, rfl, rfl, rfl, trivial⟩
                · skip
                  exact ⟨Nat.zero_le _, hon, hrs, m4_6, hX⟩
                · intro σ
                  clear hX m4_6 hon hrs
                  rintro ⟨y, ya, yb, yc, ye, ov, i⟩ Hl21 ⟨hi, hon, hrs, m4_6, hX⟩
                  replace hi : i ≤ es.length := hi
                  replace hon : Once y ov lk := hon
                  replace hrs : Res d y a b ya yb := hrs
                  replace m4_6 : Blk Hl21 b4_6 (dcs y ya yb yc ye) 24 := m4_6
                  replace hX : Ext H Hl21 := hX
                  show XC _ _ _ (upds σ [(2, .slice ea (List.length es) ec), (8, .pointer (some ⟨b4_6, 0, none⟩)), (10, .int .i64 lk), (13, .int .i64 ov), (16, .int .i64 (i : Nat))]) _
                  refine xc_seq ?_
                  refine xc_seq ?_
                  refine xc_region ?_
                  refine xl_pure rfl rfl rfl (pv_move (v := .int _ _) rfl rfl) ?_
                  refine xl_pure rfl rfl rfl (pv_move (v := .slice _ _ _) rfl rfl) ?_
                  refine xl_pure rfl rfl rfl (pv_len_l rfl rfl) ?_
                  refine xl_dec rfl rfl rfl (pv_lss rfl rfl rfl) (fun h21_3 => ?_) (fun h21_3 => ?_)
                  · skip
                    refine xl_nil ?_
                    refine xthen_normal ?_
                    refine xc_cond_t rfl ?_
                    refine xc_skip ?_
                    refine xthen_normal ?_
                    refine xc_seq ?_
                    refine xc_block ?_
                    refine xc_seq ?_
                    obtain ⟨ba, off, hae, hea⟩ := hes.resolve_left (by omega)
                    subst hae
                    refine xp_start rfl (by repeat (first | with_reducible exact np_fin | with_reducible refine np_then ?_ | with_reducible refine np_block ?_)) (by kernel_rfl) ?_
                    refine xp_light (i := 0) rfl (by kernel_rfl) (by kernel_rfl) rfl rfl rfl (lv_load (v := .agg _) rfl rfl (ld_blk_a m4_6 rfl rfl)) ?_
                    refine xp_pure (i := 1) rfl (by kernel_rfl) (by kernel_rfl) rfl rfl rfl (pv_move (v := .slice _ _ _) rfl rfl) ?_
                    refine xp_pure (i := 2) rfl (by kernel_rfl) (by kernel_rfl) rfl rfl rfl (pv_move (v := .int _ _) rfl rfl) ?_
                    refine xp_pure (i := 3) rfl (by kernel_rfl) (by kernel_rfl) rfl rfl rfl (pv_indexAddr_l rfl rfl rfl (by omega)) ?_
                    refine xp_light (i := 4) rfl (by kernel_rfl) (by kernel_rfl) rfl rfl rfl (lv_load (v := .int _ _) rfl rfl (by exact cellAt_ext (hea i (by omega)) hX)) ?_
                    refine xp_heavy (i := 5) (by kernel_rfl) ?_
                    refine xph_val rfl rfl rfl rfl (hv_call (g := 16) rfl rfl (c16 y _ _ _ _ (es.getD i 0) 0 (res_g hrs (hs.ext hX)) (res_w hrs (hs'.ext hX)) (res_gl hrs (by omega)) (res_wl hrs (by omega))) rfl) (pd (by kernel_rfl) (pd (by kernel_rfl) pn)) ?_
                    rintro v23_5 H23_5 ⟨e23_5, l23_5, a23_5, c23_5, rfl, hd23_5, hR23_5, hE23_5⟩
                    have m4_6 := m4_6.ext hE23_5
                    have hX := hX.trans hE23_5
                    have hX23_5 := Ext.refl H23_5
                    refine ⟨okn, ?_⟩
                    refine xp_pure (i := 6) rfl (by kernel_rfl) (by kernel_rfl) rfl rfl rfl (pv_move (v := .tuple _) rfl rfl) ?_
                    refine xp_pure (i := 7) rfl (by kernel_rfl) (by kernel_rfl) rfl rfl rfl (pv_extract (v := .slice _ _ _) rfl rfl rfl) ?_
                    refine xp_pure (i := 8) rfl (by kernel_rfl) (by kernel_rfl) rfl rfl rfl (pv_extract (v := .int _ _) rfl rfl rfl) ?_
                    refine xp_pure (i := 9) rfl (by kernel_rfl) (by kernel_rfl) rfl rfl rfl (pv_assign (v := .slice _ _ _) rfl rfl) ?_
                    refine xp_pure (i := 10) rfl (by kernel_rfl) (by kernel_rfl) rfl rfl rfl (pv_assign (v := .int _ _) rfl rfl) ?_
                    refine xp_done (by kernel_rfl) ?_
                    refine xthen_normal ?_
                    refine xc_seq ?_
                    refine xp_start rfl (by repeat (first | with_reducible exact np_fin | with_reducible refine np_then ?_ | with_reducible refine np_block ?_)) (by kernel_rfl) ?_
                    refine xp_light (i := 0) rfl (by kernel_rfl) (by kernel_rfl) rfl rfl rfl (lv_load (v := .agg _) rfl rfl (ld_blk_a m4_6 rfl rfl)) ?_
                    refine xp_pure (i := 1) rfl (by kernel_rfl) (by kernel_rfl) rfl rfl rfl (pv_move (v := .slice _ _ _) rfl rfl) ?_
                    refine xp_pure (i := 2) rfl (by kernel_rfl) (by kernel_rfl) rfl rfl rfl (pv_move (v := .int _ _) rfl rfl) ?_
                    refine xp_pure (i := 3) rfl (by kernel_rfl) (by kernel_rfl) rfl rfl rfl (pv_indexAddr_l rfl rfl rfl (by omega)) ?_
                    refine xp_light (i := 4) rfl (by kernel_rfl) (by kernel_rfl) rfl rfl rfl (lv_load (v := .int _ _) rfl rfl (by exact cellAt_ext (hea i (by omega)) hX)) ?_
                    refine xp_heavy2 (i := 5) (j := 9) (by kernel_rfl) ?_ ?_
                    · skip
                      refine xph_val rfl rfl rfl rfl (hv_call (g := 12) rfl rfl (c12 y _ _ _ _ (es.getD i 0) (res_g hrs (hs.ext hX)) (res_w hrs (hs'.ext hX)) (res_gl hrs (by omega)) (res_wl hrs (by omega))) rfl) (pd (by kernel_rfl) (pd (by kernel_rfl) pn)) ?_
                      rintro v24_5 H24_5 ⟨r24_5, x24_5, a24_5, b24_5, c24_5, e24_5, rfl, hd24_5, hs24_5, hE24_5⟩
                      have m4_6 := m4_6.ext hE24_5
                      have hX := hX.trans hE24_5
                      have hX23_5 := hX23_5.trans hE24_5
                      refine ⟨okn, ?_⟩
                      by_cases hr24_5 : r24_5 = 0
                      · skip
                        subst hr24_5
                        obtain ⟨hE, rfl⟩ := end_cases hon.good hd24_5.symm rfl
                        obtain ⟨l', hl', hp, ht⟩ := end_all hon.good hE
                        have q24_5 := hd23_5.trans hl'
                        simp only [Prod.mk.injEq] at q24_5
                        obtain ⟨rfl, rfl⟩ := q24_5
                        obtain ⟨hov, hlk, hon2⟩ := once_end hon hE
                        have hso := ends_over hE
                        refine xp_pure (i := 6) rfl (by kernel_rfl) (by kernel_rfl) rfl rfl rfl (pv_move (v := .tuple _) rfl rfl) ?_
                        refine xp_pure (i := 7) rfl (by kernel_rfl) (by kernel_rfl) rfl rfl rfl (pv_extract (v := .agg _) rfl rfl rfl) ?_
                        refine xp_pure (i := 8) rfl (by kernel_rfl) (by kernel_rfl) rfl rfl rfl (pv_extract (v := .int _ _) rfl rfl rfl) ?_
                        refine xp_heavy (i := 9) (by kernel_rfl) ?_
                        refine xph_val rfl rfl rfl rfl (hv_alloc rfl rfl) pn ?_
                        rintro v24_9 H24_9 ⟨b24_9, rfl, hN24_9⟩
                        have gb24_9 := hX.fresh hN24_9
                        have gb24_9_hX23_5 := hX23_5.fresh hN24_9
                        have nm4_6_24_9 := m4_6.apart hN24_9
                        have m4_6 := m4_6.ext hN24_9.ext
                        have hX := hX.trans hN24_9.ext
                        have hX23_5 := hX23_5.trans hN24_9.ext
                        have m24_9 := hN24_9.blk
                        refine ⟨okn, ?_⟩
                        refine xp_heavy (i := 10) (by kernel_rfl) ?_
                        refine xph_store rfl rfl rfl (hv_storeA (vs := [.int _ _, .int _ _, .int _ _, .int _ _, .int _ _, .int _ _, .int _ _, .int _ _, .int _ _, .int _ _, .int _ _, .int _ _, .int _ _, .slice _ _ _, .slice _ _ _, .int _ _, .int _ _, .int _ _, .int _ _]) rfl rfl rfl (m24_9) rfl (by rfl) rfl) pn ?_
                        rintro v24_10 H24_10 ⟨hU24_10, hZ24_10⟩
                        have hX23_5 := hX23_5.upd hU24_10.but gb24_9_hX23_5
                        have m4_6 := m4_6.off hU24_10.but (nm4_6_24_9)
                        have hX := hX.upd hU24_10.but gb24_9
                        have m24_9 := hU24_10.blk
                        refine ⟨okn, ?_⟩
                        refine xp_pure (i := 11) rfl (by kernel_rfl) (by kernel_rfl) rfl rfl rfl (pv_assign (v := .int _ _) rfl rfl) ?_
                        refine xp_done (by kernel_rfl) ?_
                        refine xthen_normal ?_
                        refine xc_seq ?_
                        refine xc_seq ?_
                        refine xc_region ?_
                        refine xl_pure rfl rfl rfl (pv_move (v := .int _ _) rfl rfl) ?_
                        refine xl_dec rfl rfl rfl (pv_eql rfl rfl rfl) (fun h25_1 => ?_) (fun h25_1 => ?_)
                        · skip
                          refine xl_nil ?_
                          refine xthen_normal ?_
                          refine xc_cond_t rfl ?_
                          refine xc_seq ?_
                          refine xc_region ?_
                          refine xl_pure rfl rfl rfl (pv_move (v := .int _ _) rfl rfl) ?_
                          refine xl_pure rfl rfl rfl (pv_add rfl rfl rfl (fit_i64 (by omega))) ?_
                          refine xl_pure rfl rfl rfl (pv_assign (v := .int _ _) rfl rfl) ?_
                          refine xl_nil ?_
                          refine xthen_normal ?_
                          refine xc_seq ?_
                          refine xc_seq ?_
                          refine xc_region ?_
                          refine xl_pure rfl rfl rfl (pv_move (v := .int _ _) rfl rfl) ?_
                          refine xl_dec rfl rfl rfl (pv_gtr rfl rfl rfl) (fun h27_1 => ?_) (fun h27_1 => ?_)
                          · exact absurd h27_1 (by omega)
                          · skip
                            refine xl_pure rfl rfl rfl (pv_move (v := .bool _) rfl rfl) ?_
                            refine xl_pure rfl rfl rfl (pv_move (v := .int _ _) rfl rfl) ?_
                            refine xl_ndec rfl rfl rfl (pv_neq rfl rfl rfl) (fun h27_4 => ?_) (fun h27_4 => ?_)
                            · skip
                              refine xl_pure rfl rfl rfl (pv_pick_f (v := .bool _) rfl rfl rfl) ?_
                              refine xl_pure rfl rfl rfl (pv_move (v := .bool _) rfl rfl) ?_
                              refine xl_pure rfl rfl rfl (pv_move (v := .slice _ _ _) rfl rfl) ?_
                              refine xl_heavy rfl rfl rfl (hv_call (g := 24) rfl rfl (c24 l23_5 _ _ (hR23_5.ext hX23_5) hp) rfl) ?_
                              rintro v27_8 H27_8 ⟨rfl, hE27_8⟩
                              have m4_6 := m4_6.ext hE27_8
                              have m24_9 := m24_9.ext hE27_8
                              have hX := hX.trans hE27_8
                              have hX23_5 := hX23_5.trans hE27_8
                              refine xl_pure rfl rfl rfl (pv_move (v := .int _ _) rfl rfl) ?_
                              refine xl_ndec rfl rfl rfl (pv_neq rfl rfl rfl) (fun h27_10 => ?_) (fun h27_10 => ?_)
                              · skip
                                refine xl_pure rfl rfl rfl (pv_pick_f (v := .bool _) rfl rfl rfl) ?_
                                refine xl_pure rfl rfl rfl (pv_move (v := .bool _) rfl rfl) ?_
                                refine xl_light rfl rfl rfl (lv_load (v := .agg _) rfl rfl (ld_blk_a m24_9 rfl rfl)) ?_
                                refine xl_heavy rfl rfl rfl (hv_call (g := 22) rfl rfl (c22 { y with st := (es.getD i 0), due := 0 } _ _ _ _) rfl) ?_
                                rintro v27_14 H27_14 ⟨r27_14, rfl, hb27_14, hE27_14⟩
                                have m4_6 := m4_6.ext hE27_14
                                have m24_9 := m24_9.ext hE27_14
                                have hX := hX.trans hE27_14
                                have hX23_5 := hX23_5.trans hE27_14
                                obtain rfl : r27_14 = true := hb27_14.2 hso
                                refine xl_pure rfl rfl rfl (pv_not rfl rfl) ?_
                                refine xl_pure rfl rfl rfl (pv_pick_f (v := .bool _) rfl rfl rfl) ?_
                                refine xl_nil ?_
                                refine xthen_normal ?_
                                refine xc_cond_f rfl ?_
                                refine xc_skip ?_
                                refine xthen_normal ?_
                                refine xc_region ?_
                                refine xl_light rfl rfl rfl (lv_load (v := .agg _) rfl rfl (ld_blk_a m24_9 rfl rfl)) ?_
                                refine xl_store rfl rfl (hv_storeA (vs := [.int _ _, .int _ _, .int _ _, .int _ _, .int _ _, .int _ _, .int _ _, .int _ _, .int _ _, .int _ _, .int _ _, .int _ _, .int _ _, .slice _ _ _, .slice _ _ _, .int _ _, .int _ _, .int _ _, .int _ _]) rfl rfl rfl (m4_6) rfl (by rfl) rfl) ?_
                                rintro v29_1 H29_1 ⟨hU29_1, hZ29_1⟩
                                have m24_9 := m24_9.off hU29_1.but (nm4_6_24_9.symm)
                                have hX := hX.upd hU29_1.but gb4_6
                                have m4_6 := hU29_1.blk
                                refine xl_nil ?_
                                refine xthen_normal ?_
                                refine xc_seq ?_
                                refine xc_region ?_
                                refine xl_light rfl rfl rfl (lv_load (v := .agg _) rfl rfl (ld_blk_a m4_6 rfl rfl)) ?_
                                refine xl_heavy rfl rfl rfl (hv_call (g := 20) rfl rfl (c20 { y with st := (es.getD i 0), due := 0 } _ _ _ _ (Stks.ext (res_g (res_trans hrs hs24_5) hs) hX) (Stks.ext (res_w (res_trans hrs hs24_5) hs') hX) (res_gl (res_trans hrs hs24_5) (by omega)) (res_wl (res_trans hrs hs24_5) (by omega))) rfl) ?_
                                rintro v30_1 H30_1 ⟨e30_1, rfl, hg30_1, hE30_1⟩
                                have m4_6 := m4_6.ext hE30_1
                                have m24_9 := m24_9.ext hE30_1
                                have hX := hX.trans hE30_1
                                obtain rfl : e30_1 = 0 := (hg30_1.resolve_right (fun h => h.1 (end_good hon.good hE))).2
                                refine xl_ndec rfl rfl rfl (pv_neq rfl rfl rfl) (fun h30_2 => ?_) (fun h30_2 => ?_)
                                · skip
                                  refine xl_nil ?_
                                  refine xthen_normal ?_
                                  refine xc_cond_f rfl ?_
                                  refine xc_skip ?_
                                  refine xblock_normal ?_
                                  refine xthen_normal ?_
                                  refine xc_region ?_
                                  refine xl_pure rfl rfl rfl (pv_move (v := .int _ _) rfl rfl) ?_
                                  refine xl_pure rfl rfl rfl (pv_add rfl rfl rfl (fit_i64 (by omega))) ?_
                                  refine xl_pure rfl rfl rfl (pv_assign (v := .int _ _) rfl rfl) ?_
                                  refine xl_nil ?_
                                  refine xthen_normal ?_
                                  first
                                    | exact ⟨(_, _, _, _, _, ov + 1, i + 1), ⟨rfl, rfl, rfl, rfl, rfl, trivial⟩, ⟨by (try simp only); omega, once_1 hon2 hov, res_trans hrs hs24_5, m4_6, hX⟩, by (try simp only); omega⟩
                                    | exact ⟨(_, _, _, _, _, _, i + 1), ⟨rfl, rfl, rfl, rfl, rfl, trivial⟩, ⟨by (try simp only); omega, hon, hrs, m4_6, hX⟩, by (try simp only); omega⟩
                                · exact absurd (by decide) h30_2
                              · exact absurd (by omega) h27_10
                            · exact absurd rfl h27_4
                        · exact absurd (by decide) h25_1
                      · skip
                        refine xp_pure (i := 6) rfl (by kernel_rfl) (by kernel_rfl) rfl rfl rfl (pv_move (v := .tuple _) rfl rfl) ?_
                        refine xp_pure (i := 7) rfl (by kernel_rfl) (by kernel_rfl) rfl rfl rfl (pv_extract (v := .agg _) rfl rfl rfl) ?_
                        refine xp_pure (i := 8) rfl (by kernel_rfl) (by kernel_rfl) rfl rfl rfl (pv_extract (v := .int _ _) rfl rfl rfl) ?_
                        refine xp_heavy (i := 9) (by kernel_rfl) ?_
                        refine xph_val rfl rfl rfl rfl (hv_alloc rfl rfl) pn ?_
                        rintro v24_9 H24_9 ⟨b24_9, rfl, hN24_9⟩
                        have gb24_9 := hX.fresh hN24_9
                        have gb24_9_hX23_5 := hX23_5.fresh hN24_9
                        have nm4_6_24_9 := m4_6.apart hN24_9
                        have m4_6 := m4_6.ext hN24_9.ext
                        have hX := hX.trans hN24_9.ext
                        have hX23_5 := hX23_5.trans hN24_9.ext
                        have m24_9 := hN24_9.blk
                        refine ⟨okn, ?_⟩
                        refine xp_heavy (i := 10) (by kernel_rfl) ?_
                        refine xph_store rfl rfl rfl (hv_storeA (vs := [.int _ _, .int _ _, .int _ _, .int _ _, .int _ _, .int _ _, .int _ _, .int _ _, .int _ _, .int _ _, .int _ _, .int _ _, .int _ _, .slice _ _ _, .slice _ _ _, .int _ _, .int _ _, .int _ _, .int _ _]) rfl rfl rfl (m24_9) rfl (by rfl) rfl) pn ?_
                        rintro v24_10 H24_10 ⟨hU24_10, hZ24_10⟩
                        have hX23_5 := hX23_5.upd hU24_10.but gb24_9_hX23_5
                        have m4_6 := m4_6.off hU24_10.but (nm4_6_24_9)
                        have hX := hX.upd hU24_10.but gb24_9
                        have m24_9 := hU24_10.blk
                        refine ⟨okn, ?_⟩
                        refine xp_pure (i := 11) rfl (by kernel_rfl) (by kernel_rfl) rfl rfl rfl (pv_assign (v := .int _ _) rfl rfl) ?_
                        refine xp_done (by kernel_rfl) ?_
                        refine xthen_normal ?_
                        refine xc_seq ?_
                        refine xc_seq ?_
                        refine xc_region ?_
                        refine xl_pure rfl rfl rfl (pv_move (v := .int _ _) rfl rfl) ?_
                        refine xl_dec rfl rfl rfl (pv_eql rfl rfl rfl) (fun h25_1 => ?_) (fun h25_1 => ?_)
                        · exact absurd h25_1 hr24_5
                        · skip
                          refine xl_nil ?_
                          refine xthen_normal ?_
                          refine xc_cond_f rfl ?_
                          refine xc_skip ?_
                          refine xthen_normal ?_
                          refine xc_seq ?_
                          refine xc_region ?_
                          refine xl_light rfl rfl rfl (lv_load (v := .agg _) rfl rfl (ld_blk_a m4_6 rfl rfl)) ?_
                          refine xl_heavy rfl rfl rfl (hv_call (g := 20) rfl rfl (c20 y _ _ _ _ (Stks.ext (res_g hrs hs) hX) (Stks.ext (res_w hrs hs') hX) (res_gl hrs (by omega)) (res_wl hrs (by omega))) rfl) ?_
                          rintro v30_1 H30_1 ⟨e30_1, rfl, hg30_1, hE30_1⟩
                          have m4_6 := m4_6.ext hE30_1
                          have m24_9 := m24_9.ext hE30_1
                          have hX := hX.trans hE30_1
                          have hX23_5 := hX23_5.trans hE30_1
                          obtain rfl : e30_1 = 0 := (hg30_1.resolve_right (fun h => h.1 hon.good)).2
                          refine xl_ndec rfl rfl rfl (pv_neq rfl rfl rfl) (fun h30_2 => ?_) (fun h30_2 => ?_)
                          · skip
                            refine xl_nil ?_
                            refine xthen_normal ?_
                            refine xc_cond_f rfl ?_
                            refine xc_skip ?_
                            refine xblock_normal ?_
                            refine xthen_normal ?_
                            refine xc_region ?_
                            refine xl_pure rfl rfl rfl (pv_move (v := .int _ _) rfl rfl) ?_
                            refine xl_pure rfl rfl rfl (pv_add rfl rfl rfl (fit_i64 (by omega))) ?_
                            refine xl_pure rfl rfl rfl (pv_assign (v := .int _ _) rfl rfl) ?_
                            refine xl_nil ?_
                            refine xthen_normal ?_
                            first
                              | exact ⟨(_, _, _, _, _, ov + 1, i + 1), ⟨rfl, rfl, rfl, rfl, rfl, trivial⟩, ⟨by (try simp only); omega, once_1 hon2 hov, res_trans hrs hs24_5, m4_6, hX⟩, by (try simp only); omega⟩
                              | exact ⟨(_, _, _, _, _, _, i + 1), ⟨rfl, rfl, rfl, rfl, rfl, trivial⟩, ⟨by (try simp only); omega, hon, hrs, m4_6, hX⟩, by (try simp only); omega⟩
                          · exact absurd (by decide) h30_2
                    · skip
                      refine xph_val rfl rfl rfl rfl (hv_alloc rfl rfl) (pk (by kernel_rfl) (pk (by kernel_rfl) pn)) ?_
                      rintro v24_9 H24_9 ⟨b24_9, rfl, hN24_9⟩
                      have gb24_9 := hX.fresh hN24_9
                      have gb24_9_hX23_5 := hX23_5.fresh hN24_9
                      have nm4_6_24_9 := m4_6.apart hN24_9
                      have m4_6 := m4_6.ext hN24_9.ext
                      have hX := hX.trans hN24_9.ext
                      have hX23_5 := hX23_5.trans hN24_9.ext
                      have m24_9 := hN24_9.blk
                      refine ⟨(okc (lv_load (v := .int _ _) rfl rfl (by exact cellAt_ext (hea i (by omega)) hX)) (okc (lv_load (v := .agg _) rfl rfl (ld_blk_a m4_6 rfl rfl)) okn)), ?_⟩
                      refine xp_heavy (i := 5) (by kernel_rfl) ?_
                      refine xph_val rfl rfl rfl rfl (hv_call (g := 12) rfl rfl (c12 y _ _ _ _ (es.getD i 0) (res_g hrs (hs.ext hX)) (res_w hrs (hs'.ext hX)) (res_gl hrs (by omega)) (res_wl hrs (by omega))) rfl) (pd (by kernel_rfl) (pd (by kernel_rfl) pn)) ?_
                      rintro v24_5 H24_5 ⟨r24_5, x24_5, a24_5, b24_5, c24_5, e24_5, rfl, hd24_5, hs24_5, hE24_5⟩
                      have m4_6 := m4_6.ext hE24_5
                      have m24_9 := m24_9.ext hE24_5
                      have hX := hX.trans hE24_5
                      have hX23_5 := hX23_5.trans hE24_5
                      refine ⟨okn, ?_⟩
                      by_cases hr24_5 : r24_5 = 0
                      · skip
                        subst hr24_5
                        obtain ⟨hE, rfl⟩ := end_cases hon.good hd24_5.symm rfl
                        obtain ⟨l', hl', hp, ht⟩ := end_all hon.good hE
                        have q24_5 := hd23_5.trans hl'
                        simp only [Prod.mk.injEq] at q24_5
                        obtain ⟨rfl, rfl⟩ := q24_5
                        obtain ⟨hov, hlk, hon2⟩ := once_end hon hE
                        have hso := ends_over hE
                        refine xp_pure (i := 6) rfl (by kernel_rfl) (by kernel_rfl) rfl rfl rfl (pv_move (v := .tuple _) rfl rfl) ?_
                        refine xp_pure (i := 7) rfl (by kernel_rfl) (by kernel_rfl) rfl rfl rfl (pv_extract (v := .agg _) rfl rfl rfl) ?_
                        refine xp_pure (i := 8) rfl (by kernel_rfl) (by kernel_rfl) rfl rfl rfl (pv_extract (v := .int _ _) rfl rfl rfl) ?_
                        refine xp_heavy (i := 10) (by kernel_rfl) ?_
                        refine xph_store rfl rfl rfl (hv_storeA (vs := [.int _ _, .int _ _, .int _ _, .int _ _, .int _ _, .int _ _, .int _ _, .int _ _, .int _ _, .int _ _, .int _ _, .int _ _, .int _ _, .slice _ _ _, .slice _ _ _, .int _ _, .int _ _, .int _ _, .int _ _]) rfl rfl rfl (m24_9) rfl (by rfl) rfl) pn ?_
                        rintro v24_10 H24_10 ⟨hU24_10, hZ24_10⟩
                        have hX23_5 := hX23_5.upd hU24_10.but gb24_9_hX23_5
                        have m4_6 := m4_6.off hU24_10.but (nm4_6_24_9)
                        have hX := hX.upd hU24_10.but gb24_9
                        have m24_9 := hU24_10.blk
                        refine ⟨okn, ?_⟩
                        refine xp_pure (i := 11) rfl (by kernel_rfl) (by kernel_rfl) rfl rfl rfl (pv_assign (v := .int _ _) rfl rfl) ?_
                        refine xp_done (by kernel_rfl) ?_
                        refine xthen_normal ?_
                        refine xc_seq ?_
                        refine xc_seq ?_
                        refine xc_region ?_
                        refine xl_pure rfl rfl rfl (pv_move (v := .int _ _) rfl rfl) ?_
                        refine xl_dec rfl rfl rfl (pv_eql rfl rfl rfl) (fun h25_1 => ?_) (fun h25_1 => ?_)
                        · skip
                          refine xl_nil ?_
                          refine xthen_normal ?_
                          refine xc_cond_t rfl ?_
                          refine xc_seq ?_
                          refine xc_region ?_
                          refine xl_pure rfl rfl rfl (pv_move (v := .int _ _) rfl rfl) ?_
                          refine xl_pure rfl rfl rfl (pv_add rfl rfl rfl (fit_i64 (by omega))) ?_
                          refine xl_pure rfl rfl rfl (pv_assign (v := .int _ _) rfl rfl) ?_
                          refine xl_nil ?_
                          refine xthen_normal ?_
                          refine xc_seq ?_
                          refine xc_seq ?_
                          refine xc_region ?_
                          refine xl_pure rfl rfl rfl (pv_move (v := .int _ _) rfl rfl) ?_
                          refine xl_dec rfl rfl rfl (pv_gtr rfl rfl rfl) (fun h27_1 => ?_) (fun h27_1 => ?_)
                          · exact absurd h27_1 (by omega)
                          · skip
                            refine xl_pure rfl rfl rfl (pv_move (v := .bool _) rfl rfl) ?_
                            refine xl_pure rfl rfl rfl (pv_move (v := .int _ _) rfl rfl) ?_
                            refine xl_ndec rfl rfl rfl (pv_neq rfl rfl rfl) (fun h27_4 => ?_) (fun h27_4 => ?_)
                            · skip
                              refine xl_pure rfl rfl rfl (pv_pick_f (v := .bool _) rfl rfl rfl) ?_
                              refine xl_pure rfl rfl rfl (pv_move (v := .bool _) rfl rfl) ?_
                              refine xl_pure rfl rfl rfl (pv_move (v := .slice _ _ _) rfl rfl) ?_
                              refine xl_heavy rfl rfl rfl (hv_call (g := 24) rfl rfl (c24 l23_5 _ _ (hR23_5.ext hX23_5) hp) rfl) ?_
                              rintro v27_8 H27_8 ⟨rfl, hE27_8⟩
                              have m4_6 := m4_6.ext hE27_8
                              have m24_9 := m24_9.ext hE27_8
                              have hX := hX.trans hE27_8
                              have hX23_5 := hX23_5.trans hE27_8
                              refine xl_pure rfl rfl rfl (pv_move (v := .int _ _) rfl rfl) ?_
                              refine xl_ndec rfl rfl rfl (pv_neq rfl rfl rfl) (fun h27_10 => ?_) (fun h27_10 => ?_)
                              · skip
                                refine xl_pure rfl rfl rfl (pv_pick_f (v := .bool _) rfl rfl rfl) ?_
                                refine xl_pure rfl rfl rfl (pv_move (v := .bool _) rfl rfl) ?_
                                refine xl_light rfl rfl rfl (lv_load (v := .agg _) rfl rfl (ld_blk_a m24_9 rfl rfl)) ?_
                                refine xl_heavy rfl rfl rfl (hv_call (g := 22) rfl rfl (c22 { y with st := (es.getD i 0), due := 0 } _ _ _ _) rfl) ?_
                                rintro v27_14 H27_14 ⟨r27_14, rfl, hb27_14, hE27_14⟩
                                have m4_6 := m4_6.ext hE27_14
                                have m24_9 := m24_9.ext hE27_14
                                have hX := hX.trans hE27_14
                                have hX23_5 := hX23_5.trans hE27_14
                                obtain rfl : r27_14 = true := hb27_14.2 hso
                                refine xl_pure rfl rfl rfl (pv_not rfl rfl) ?_
                                refine xl_pure rfl rfl rfl (pv_pick_f (v := .bool _) rfl rfl rfl) ?_
                                refine xl_nil ?_
                                refine xthen_normal ?_
                                refine xc_cond_f rfl ?_
                                refine xc_skip ?_
                                refine xthen_normal ?_
                                refine xc_region ?_
                                refine xl_light rfl rfl rfl (lv_load (v := .agg _) rfl rfl (ld_blk_a m24_9 rfl rfl)) ?_
                                refine xl_store rfl rfl (hv_storeA (vs := [.int _ _, .int _ _, .int _ _, .int _ _, .int _ _, .int _ _, .int _ _, .int _ _, .int _ _, .int _ _, .int _ _, .int _ _, .int _ _, .slice _ _ _, .slice _ _ _, .int _ _, .int _ _, .int _ _, .int _ _]) rfl rfl rfl (m4_6) rfl (by rfl) rfl) ?_
                                rintro v29_1 H29_1 ⟨hU29_1, hZ29_1⟩
                                have m24_9 := m24_9.off hU29_1.but (nm4_6_24_9.symm)
                                have hX := hX.upd hU29_1.but gb4_6
                                have m4_6 := hU29_1.blk
                                refine xl_nil ?_
                                refine xthen_normal ?_
                                refine xc_seq ?_
                                refine xc_region ?_
                                refine xl_light rfl rfl rfl (lv_load (v := .agg _) rfl rfl (ld_blk_a m4_6 rfl rfl)) ?_
                                refine xl_heavy rfl rfl rfl (hv_call (g := 20) rfl rfl (c20 { y with st := (es.getD i 0), due := 0 } _ _ _ _ (Stks.ext (res_g (res_trans hrs hs24_5) hs) hX) (Stks.ext (res_w (res_trans hrs hs24_5) hs') hX) (res_gl (res_trans hrs hs24_5) (by omega)) (res_wl (res_trans hrs hs24_5) (by omega))) rfl) ?_
                                rintro v30_1 H30_1 ⟨e30_1, rfl, hg30_1, hE30_1⟩
                                have m4_6 := m4_6.ext hE30_1
                                have m24_9 := m24_9.ext hE30_1
                                have hX := hX.trans hE30_1
                                obtain rfl : e30_1 = 0 := (hg30_1.resolve_right (fun h => h.1 (end_good hon.good hE))).2
                                refine xl_ndec rfl rfl rfl (pv_neq rfl rfl rfl) (fun h30_2 => ?_) (fun h30_2 => ?_)
                                · skip
                                  refine xl_nil ?_
                                  refine xthen_normal ?_
                                  refine xc_cond_f rfl ?_
                                  refine xc_skip ?_
                                  refine xblock_normal ?_
                                  refine xthen_normal ?_
                                  refine xc_region ?_
                                  refine xl_pure rfl rfl rfl (pv_move (v := .int _ _) rfl rfl) ?_
                                  refine xl_pure rfl rfl rfl (pv_add rfl rfl rfl (fit_i64 (by omega))) ?_
                                  refine xl_pure rfl rfl rfl (pv_assign (v := .int _ _) rfl rfl) ?_
                                  refine xl_nil ?_
                                  refine xthen_normal ?_
                                  first
                                    | exact ⟨(_, _, _, _, _, ov + 1, i + 1), ⟨rfl, rfl, rfl, rfl, rfl, trivial⟩, ⟨by (try simp only); omega, once_1 hon2 hov, res_trans hrs hs24_5, m4_6, hX⟩, by (try simp only); omega⟩
                                    | exact ⟨(_, _, _, _, _, _, i + 1), ⟨rfl, rfl, rfl, rfl, rfl, trivial⟩, ⟨by (try simp only); omega, hon, hrs, m4_6, hX⟩, by (try simp only); omega⟩
                                · exact absurd (by decide) h30_2
                              · exact absurd (by omega) h27_10
                            · exact absurd rfl h27_4
                        · exact absurd (by decide) h25_1
                      · skip
                        refine xp_pure (i := 6) rfl (by kernel_rfl) (by kernel_rfl) rfl rfl rfl (pv_move (v := .tuple _) rfl rfl) ?_
                        refine xp_pure (i := 7) rfl (by kernel_rfl) (by kernel_rfl) rfl rfl rfl (pv_extract (v := .agg _) rfl rfl rfl) ?_
                        refine xp_pure (i := 8) rfl (by kernel_rfl) (by kernel_rfl) rfl rfl rfl (pv_extract (v := .int _ _) rfl rfl rfl) ?_
                        refine xp_heavy (i := 10) (by kernel_rfl) ?_
                        refine xph_store rfl rfl rfl (hv_storeA (vs := [.int _ _, .int _ _, .int _ _, .int _ _, .int _ _, .int _ _, .int _ _, .int _ _, .int _ _, .int _ _, .int _ _, .int _ _, .int _ _, .slice _ _ _, .slice _ _ _, .int _ _, .int _ _, .int _ _, .int _ _]) rfl rfl rfl (m24_9) rfl (by rfl) rfl) pn ?_
                        rintro v24_10 H24_10 ⟨hU24_10, hZ24_10⟩
                        have hX23_5 := hX23_5.upd hU24_10.but gb24_9_hX23_5
                        have m4_6 := m4_6.off hU24_10.but (nm4_6_24_9)
                        have hX := hX.upd hU24_10.but gb24_9
                        have m24_9 := hU24_10.blk
                        refine ⟨okn, ?_⟩
                        refine xp_pure (i := 11) rfl (by kernel_rfl) (by kernel_rfl) rfl rfl rfl (pv_assign (v := .int _ _) rfl rfl) ?_
                        refine xp_done (by kernel_rfl) ?_
                        refine xthen_normal ?_
                        refine xc_seq ?_
                        refine xc_seq ?_
                        refine xc_region ?_
                        refine xl_pure rfl rfl rfl (pv_move (v := .int _ _) rfl rfl) ?_
                        refine xl_dec rfl rfl rfl (pv_eql rfl rfl rfl) (fun h25_1 => ?_) (fun h25_1 => ?_)
                        · exact absurd h25_1 hr24_5
                        · skip
                          refine xl_nil ?_
                          refine xthen_normal ?_
                          refine xc_cond_f rfl ?_
                          refine xc_skip ?_
                          refine xthen_normal ?_
                          refine xc_seq ?_
                          refine xc_region ?_
                          refine xl_light rfl rfl rfl (lv_load (v := .agg _) rfl rfl (ld_blk_a m4_6 rfl rfl)) ?_
                          refine xl_heavy rfl rfl rfl (hv_call (g := 20) rfl rfl (c20 y _ _ _ _ (Stks.ext (res_g hrs hs) hX) (Stks.ext (res_w hrs hs') hX) (res_gl hrs (by omega)) (res_wl hrs (by omega))) rfl) ?_
                          rintro v30_1 H30_1 ⟨e30_1, rfl, hg30_1, hE30_1⟩
                          have m4_6 := m4_6.ext hE30_1
                          have m24_9 := m24_9.ext hE30_1
                          have hX := hX.trans hE30_1
                          have hX23_5 := hX23_5.trans hE30_1
                          obtain rfl : e30_1 = 0 := (hg30_1.resolve_right (fun h => h.1 hon.good)).2
                          refine xl_ndec rfl rfl rfl (pv_neq rfl rfl rfl) (fun h30_2 => ?_) (fun h30_2 => ?_)
                          · skip
                            refine xl_nil ?_
                            refine xthen_normal ?_
                            refine xc_cond_f rfl ?_
                            refine xc_skip ?_
                            refine xblock_normal ?_
                            refine xthen_normal ?_
                            refine xc_region ?_
                            refine xl_pure rfl rfl rfl (pv_move (v := .int _ _) rfl rfl) ?_
                            refine xl_pure rfl rfl rfl (pv_add rfl rfl rfl (fit_i64 (by omega))) ?_
                            refine xl_pure rfl rfl rfl (pv_assign (v := .int _ _) rfl rfl) ?_
                            refine xl_nil ?_
                            refine xthen_normal ?_
                            first
                              | exact ⟨(_, _, _, _, _, ov + 1, i + 1), ⟨rfl, rfl, rfl, rfl, rfl, trivial⟩, ⟨by (try simp only); omega, once_1 hon2 hov, res_trans hrs hs24_5, m4_6, hX⟩, by (try simp only); omega⟩
                              | exact ⟨(_, _, _, _, _, _, i + 1), ⟨rfl, rfl, rfl, rfl, rfl, trivial⟩, ⟨by (try simp only); omega, hon, hrs, m4_6, hX⟩, by (try simp only); omega⟩
                          · exact absurd (by decide) h30_2
                  · skip
                    refine xl_nil ?_
                    refine xthen_normal ?_
                    refine xc_cond_f rfl ?_
                    refine xc_exit ?_
                    refine xthen_exit ?_
                    refine xthen_exit ?_
                    refine xblock_same ?_
                    refine xthen_normal ?_
                    refine xc_seq ?_
                    refine xc_region ?_
                    refine xl_light rfl rfl rfl (lv_load (v := .agg _) rfl rfl (ld_blk_a m4_6 rfl rfl)) ?_
                    refine xl_heavy rfl rfl rfl (hv_call (g := 14) rfl rfl (c14 y _ _ _ _ (res_g hrs (hs.ext hX)) (res_w hrs (hs'.ext hX)) (res_gl hrs (by omega)) (res_wl hrs (by omega))) rfl) ?_
                    rintro v32_1 H32_1 ⟨n32_1, r32_1, rfl, hd32_1, hE32_1⟩
                    have m4_6 := m4_6.ext hE32_1
                    have hX := hX.trans hE32_1
                    have hli := late_iff hon hd32_1
                    refine xl_pure rfl rfl rfl (pv_move (v := .tuple _) rfl rfl) ?_
                    refine xl_pure rfl rfl rfl (pv_extract (v := .int _ _) rfl rfl rfl) ?_
                    refine xl_pure rfl rfl rfl (pv_extract (v := .int _ _) rfl rfl rfl) ?_
                    refine xl_pure rfl rfl rfl (pv_assign (v := .int _ _) rfl rfl) ?_
                    refine xl_pure rfl rfl rfl (pv_assign (v := .int _ _) rfl rfl) ?_
                    refine xl_nil ?_
                    refine xthen_normal ?_
                    refine xc_seq ?_
                    refine xc_region ?_
                    refine xl_pure rfl rfl rfl (pv_move (v := .int _ _) rfl rfl) ?_
                    refine xl_dec rfl rfl rfl (pv_eql rfl rfl rfl) (fun h33_1 => ?_) (fun h33_1 => ?_)
                    · skip
                      refine xl_pure rfl rfl rfl (pv_move (v := .int _ _) rfl rfl) ?_
                      refine xl_dec rfl rfl rfl (pv_eql rfl rfl rfl) (fun h33_3 => ?_) (fun h33_3 => ?_)
                      · first
                        | (exfalso; omega)
                        |  (skip
                            refine xl_pure rfl rfl rfl (pv_eql_b rfl rfl rfl) ?_
                            refine xl_pure rfl rfl rfl (pv_move (v := .bool _) rfl rfl) ?_
                            refine xl_heavy rfl rfl rfl (hv_call (g := 7) rfl rfl (c7) rfl) ?_
                            rintro v33_6 H33_6 ⟨rfl, hE33_6⟩
                            have m4_6 := m4_6.ext hE33_6
                            have hX := hX.trans hE33_6
                            refine xl_pure rfl rfl rfl (pv_pick_t (v := .bool _) rfl rfl rfl) ?_
                            refine xl_pure rfl rfl rfl (pv_assign (v := .bool _) rfl rfl) ?_
                            refine xl_nil ?_
                            refine xthen_normal ?_
                            refine xc_ret ?_
                            refine fin_ret (res1 (v := .bool _) rfl rfl) ?_
                            exact ⟨rfl, hX⟩)
                      · first
                        | (exfalso; omega)
                        |  (skip
                            refine xl_pure rfl rfl rfl (pv_eql_b rfl rfl rfl) ?_
                            refine xl_pure rfl rfl rfl (pv_move (v := .bool _) rfl rfl) ?_
                            refine xl_skip rfl rfl rfl ?_
                            refine xl_pure rfl rfl rfl (pv_pick_f (v := .bool _) rfl rfl rfl) ?_
                            refine xl_pure rfl rfl rfl (pv_assign (v := .bool _) rfl rfl) ?_
                            refine xl_nil ?_
                            refine xthen_normal ?_
                            refine xc_ret ?_
                            refine fin_ret (res1 (v := .bool _) rfl rfl) ?_
                            exact ⟨rfl, hX⟩)
                    · skip
                      refine xl_pure rfl rfl rfl (pv_move (v := .int _ _) rfl rfl) ?_
                      refine xl_dec rfl rfl rfl (pv_eql rfl rfl rfl) (fun h33_3 => ?_) (fun h33_3 => ?_)
                      · first
                        | (exfalso; omega)
                        |  (skip
                            refine xl_pure rfl rfl rfl (pv_eql_b rfl rfl rfl) ?_
                            refine xl_pure rfl rfl rfl (pv_move (v := .bool _) rfl rfl) ?_
                            refine xl_skip rfl rfl rfl ?_
                            refine xl_pure rfl rfl rfl (pv_pick_f (v := .bool _) rfl rfl rfl) ?_
                            refine xl_pure rfl rfl rfl (pv_assign (v := .bool _) rfl rfl) ?_
                            refine xl_nil ?_
                            refine xthen_normal ?_
                            refine xc_ret ?_
                            refine fin_ret (res1 (v := .bool _) rfl rfl) ?_
                            exact ⟨rfl, hX⟩)
                      · first
                        | (exfalso; omega)
                        |  (skip
                            refine xl_pure rfl rfl rfl (pv_eql_b rfl rfl rfl) ?_
                            refine xl_pure rfl rfl rfl (pv_move (v := .bool _) rfl rfl) ?_
                            refine xl_heavy rfl rfl rfl (hv_call (g := 7) rfl rfl (c7) rfl) ?_
                            rintro v33_6 H33_6 ⟨rfl, hE33_6⟩
                            have m4_6 := m4_6.ext hE33_6
                            have hX := hX.trans hE33_6
                            refine xl_pure rfl rfl rfl (pv_pick_t (v := .bool _) rfl rfl rfl) ?_
                            refine xl_pure rfl rfl rfl (pv_assign (v := .bool _) rfl rfl) ?_
                            refine xl_nil ?_
                            refine xthen_normal ?_
                            refine xc_ret ?_
                            refine fin_ret (res1 (v := .bool _) rfl rfl) ?_
                            exact ⟨rfl, hX⟩)
        · exact absurd (by decide) h5_1
      · skip
        have her := open_err hd4_2.symm hr4_2
        refine xl_pure rfl rfl rfl (pv_move (v := .tuple _) rfl rfl) ?_
        refine xl_pure rfl rfl rfl (pv_extract (v := .agg _) rfl rfl rfl) ?_
        refine xl_pure rfl rfl rfl (pv_extract (v := .int _ _) rfl rfl rfl) ?_
        refine xl_heavy rfl rfl rfl (hv_alloc rfl rfl) ?_
        rintro v4_6 H4_6 ⟨b4_6, rfl, hN4_6⟩
        have gb4_6 := hX.fresh hN4_6
        have nm0_0_4_6 := m0_0.apart hN4_6
        have nm0_1_4_6 := m0_1.apart hN4_6
        have m0_0 := m0_0.ext hN4_6.ext
        have m0_1 := m0_1.ext hN4_6.ext
        have hX := hX.trans hN4_6.ext
        have m4_6 := hN4_6.blk
        refine xl_store rfl rfl (hv_storeA (vs := [.int _ _, .int _ _, .int _ _, .int _ _, .int _ _, .int _ _, .int _ _, .int _ _, .int _ _, .int _ _, .int _ _, .int _ _, .int _ _, .slice _ _ _, .slice _ _ _, .int _ _, .int _ _, .int _ _, .int _ _]) rfl rfl rfl (m4_6) rfl (by rfl) rfl) ?_
        rintro v4_7 H4_7 ⟨hU4_7, hZ4_7⟩
        have m0_0 := m0_0.off hU4_7.but (nm0_0_4_6)
        have m0_1 := m0_1.off hU4_7.but (nm0_1_4_6)
        have hX := hX.upd hU4_7.but gb4_6
        have m4_6 := hU4_7.blk
        refine xl_pure rfl rfl rfl (pv_assign (v := .int _ _) rfl rfl) ?_
        refine xl_nil ?_
        refine xthen_normal ?_
        refine xc_seq ?_
        refine xc_seq ?_
        refine xc_region ?_
        refine xl_pure rfl rfl rfl (pv_move (v := .int _ _) rfl rfl) ?_
        refine xl_ndec rfl rfl rfl (pv_neq rfl rfl rfl) (fun h5_1 => ?_) (fun h5_1 => ?_)
        · exact absurd h5_1 hr4_2
        · skip
          refine xl_nil ?_
          refine xthen_normal ?_
          refine xc_cond_t rfl ?_
          refine xc_seq ?_
          refine xc_region ?_
          refine xl_pure rfl rfl rfl (pv_move (v := .int _ _) rfl rfl) ?_
          refine xl_dec rfl rfl rfl (pv_eql rfl rfl rfl) (fun h6_1 => ?_) (fun h6_1 => ?_)
          · skip
            refine xl_pure rfl rfl rfl (pv_move (v := .bool _) rfl rfl) ?_
            refine xl_heavy rfl rfl rfl (hv_call (g := 7) rfl rfl (c7) rfl) ?_
            rintro v6_3 H6_3 ⟨rfl, hE6_3⟩
            have m0_0 := m0_0.ext hE6_3
            have m0_1 := m0_1.ext hE6_3
            have m4_6 := m4_6.ext hE6_3
            have hX := hX.trans hE6_3
            refine xl_pure rfl rfl rfl (pv_pick_t (v := .bool _) rfl rfl rfl) ?_
            refine xl_pure rfl rfl rfl (pv_assign (v := .bool _) rfl rfl) ?_
            refine xl_nil ?_
            refine xthen_normal ?_
            refine xc_ret ?_
            refine xthen_ret ?_
            refine fin_ret (res1 (v := .bool _) rfl rfl) ?_
            exact ⟨rfl, hX⟩
          · exact absurd her h6_1
end Go.XG
