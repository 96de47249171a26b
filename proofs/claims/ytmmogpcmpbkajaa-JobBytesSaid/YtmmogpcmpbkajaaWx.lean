/-
  Walks of the seat's functions over the logic XG: each function, what it computes. Printed by a program out of wip/walks.py.
-/
import Derived.Test.YtmmogpcmpbkajaaI
import Derived.Test.YtmmogpcmpbkajaaP
import Derived.Test.YtmmogpcmpbkajaaL
import Derived.Test.YtmmogpcmpbkajaaWa
import Derived.Test.YtmmogpcmpbkajaaWb
import Derived.Test.YtmmogpcmpbkajaaWc
import Derived.Test.YtmmogpcmpbkajaaWd
import Derived.Test.YtmmogpcmpbkajaaWe
import Derived.Test.YtmmogpcmpbkajaaWf
import Derived.Test.YtmmogpcmpbkajaaWg
import Derived.Test.YtmmogpcmpbkajaaWh
import Derived.Test.YtmmogpcmpbkajaaLn
import Derived.Test.YtmmogpcmpbkajaaNa
import Derived.Test.YtmmogpcmpbkajaaNb
import Derived.Test.YtmmogpcmpbkajaaNc
import Derived.Test.YtmmogpcmpbkajaaNd
import Derived.Test.YtmmogpcmpbkajaaNf
import Derived.Test.YtmmogpcmpbkajaaNg
import Derived.Test.YtmmogpcmpbkajaaXk
import Derived.Test.YtmmogpcmpbkajaaB6
import Derived.Test.YtmmogpcmpbkajaaWr
import Derived.Test.YtmmogpcmpbkajaaWs
import Derived.Test.YtmmogpcmpbkajaaWt
import Derived.Test.YtmmogpcmpbkajaaWu
import Derived.Test.YtmmogpcmpbkajaaWv
namespace Go.XG
open Go.Proofs Go.Pen
set_option maxRecDepth 4000
set_option maxHeartbeats 4000000
theorem c20 {O : Outer} {H : Heap} (s : List UInt8) (hs : s.length < 4611686018427387904) :
    FnC Try.prog 20 #[.string (bs s)] O H (fun v H' => ∃ r x a' c', v = .tuple #[jv x a' c', .int .i64 r] ∧ (r, x) = readS s ∧ Stks H' a' x.needs ∧ x.needs.length ≤ 8 ∧ Ext H H') := by
  refine fn_enter (A := [.string (bs s)]) Try.func20 rfl rfl ?_
  have hX := Ext.refl H
  refine xc_seq ?_
  refine xc_region ?_
  refine xl_heavy rfl rfl rfl (hv_alloc rfl rfl) ?_
  rintro v0_0 H0_0 ⟨b0_0, rfl, hN0_0⟩
  have gb0_0 := hX.fresh hN0_0
  have hX := hX.trans hN0_0.ext
  have m0_0 := hN0_0.blk
  refine xl_pure rfl rfl rfl (pv_assign (v := .int _ _) rfl rfl) ?_
  refine xl_nil ?_
  refine xthen_normal ?_
  refine xc_seq ?_
  refine xc_region ?_
  refine xl_pure rfl rfl rfl (pv_move (v := .string (bs _)) rfl rfl) ?_
  refine xl_pure rfl rfl rfl (pv_build_s (cs := [.string (bs _), .int _ _, .bool _]) rfl rfl rfl) ?_
  refine xl_heavy rfl rfl rfl (hv_box rfl rfl) ?_
  rintro v1_2 H1_2 ⟨b1_2, rfl, hN1_2⟩
  have gb1_2 := hX.fresh hN1_2
  have nm0_0_1_2 := m0_0.apart hN1_2
  have m0_0 := m0_0.ext hN1_2.ext
  have hX := hX.trans hN1_2.ext
  have m1_2 := hN1_2.blk
  refine xl_pure rfl rfl rfl (pv_assign (v := .pointer _) rfl rfl) ?_
  refine xl_nil ?_
  refine xthen_normal ?_
  refine xc_seq ?_
  refine xc_region ?_
  refine xl_pure rfl rfl rfl (pv_move (v := .pointer _) rfl rfl) ?_
  refine xl_heavy rfl rfl rfl (hv_call (g := 42) rfl rfl (c42 (i := 0) (bad := false) m1_2 (Nat.zero_le _) hs) rfl) ?_
  rintro v2_1 H2_1 ⟨x2_1, a2_1, c2_1, i2_1, bad2_1, rfl, hd2_1, hx2_1, hg2_1, hgl2_1, hi2_1, hU2_1⟩
  have m0_0 := m0_0.off hU2_1.but (nm0_0_1_2)
  have hX := hX.upd hU2_1.but gb1_2
  have m1_2 := hU2_1.blk
  refine xl_heavy rfl rfl rfl (hv_alloc rfl rfl) ?_
  rintro v2_2 H2_2 ⟨b2_2, rfl, hN2_2⟩
  have gb2_2 := hX.fresh hN2_2
  have nm0_0_2_2 := m0_0.apart hN2_2
  have nm1_2_2_2 := m1_2.apart hN2_2
  have m0_0 := m0_0.ext hN2_2.ext
  have m1_2 := m1_2.ext hN2_2.ext
  have hg2_1 := hg2_1.ext hN2_2.ext
  have hX := hX.trans hN2_2.ext
  have m2_2 := hN2_2.blk
  refine xl_store rfl rfl (hv_storeA (vs := [.int _ _, .int _ _, .int _ _, .int _ _, .int _ _, .int _ _, .int _ _, .int _ _, .int _ _, .int _ _, .int _ _, .slice _ _ _, .int _ _, .int _ _, .int _ _, .int _ _]) rfl rfl rfl (m2_2) rfl (by rfl) rfl) ?_
  rintro v2_3 H2_3 ⟨hU2_3, hZ2_3⟩
  have m0_0 := m0_0.off hU2_3.but (nm0_0_2_2)
  have m1_2 := m1_2.off hU2_3.but (nm1_2_2_2)
  have hg2_1 := hg2_1.offU m2_2 hU2_3.but (.inl rfl)
  have hX := hX.upd hU2_3.but gb2_2
  have m2_2 := hU2_3.blk
  refine xl_nil ?_
  refine xthen_normal ?_
  refine xc_seq ?_
  refine xc_seq ?_
  refine xc_region ?_
  refine xl_pure rfl rfl rfl (pv_move (v := .pointer _) rfl rfl) ?_
  refine xl_heavy rfl rfl rfl (hv_call (g := 43) rfl rfl (p27 m1_2 hi2_1) rfl) ?_
  rintro v3_1 H3_1 ⟨rfl, rfl⟩
  cases hdn : doneS (s.drop i2_1, bad2_1)
  · skip
    refine xl_pure rfl rfl rfl (pv_not rfl rfl) ?_
    refine xl_pure rfl rfl rfl (pv_move (v := .bool _) rfl rfl) ?_
    refine xl_skip rfl rfl rfl ?_
    refine xl_skip rfl rfl rfl ?_
    refine xl_skip rfl rfl rfl ?_
    refine xl_pure rfl rfl rfl (pv_pick_t (v := .bool _) rfl rfl rfl) ?_
    refine xl_nil ?_
    refine xthen_normal ?_
    refine xc_cond_t rfl ?_
    refine xc_seq ?_
    refine xc_region ?_
    refine xl_pure rfl rfl rfl (pv_build_s (cs := [.int _ _, .int _ _, .int _ _, .int _ _, .int _ _, .int _ _, .int _ _, .int _ _, .int _ _, .int _ _, .int _ _, .slice _ _ _, .int _ _, .int _ _, .int _ _, .int _ _]) rfl rfl rfl) ?_
    refine xl_store rfl rfl (hv_storeA (vs := [.int _ _, .int _ _, .int _ _, .int _ _, .int _ _, .int _ _, .int _ _, .int _ _, .int _ _, .int _ _, .int _ _, .slice _ _ _, .int _ _, .int _ _, .int _ _, .int _ _]) rfl rfl rfl (m0_0) rfl (by rfl) rfl) ?_
    rintro v4_1 H4_1 ⟨hU4_1, hZ4_1⟩
    have m1_2 := m1_2.off hU4_1.but (nm0_0_1_2.symm)
    have hg2_1 := hg2_1.offU m0_0 hU4_1.but (.inl rfl)
    have m2_2 := m2_2.off hU4_1.but (nm0_0_2_2.symm)
    have hX := hX.upd hU4_1.but gb0_0
    have m0_0 := hU4_1.blk
    refine xl_pure rfl rfl rfl (pv_assign (v := .int _ _) rfl rfl) ?_
    refine xl_nil ?_
    refine xthen_normal ?_
    refine xc_ret ?_
    refine xthen_ret ?_
    refine fin_ret (resv2 rfl (rv_c (ty := 26) rfl (ld_blk_a m0_0 rfl rfl)) (rv_t (v := .int _ _) rfl)) ?_
    first
      | exact ⟨2, J0, none, 0, rfl, read_ng2 hd2_1 hx2_1 hdn hg3_5, .inl rfl, Nat.zero_le _, hX⟩
      | exact ⟨2, J0, none, 0, rfl, read_nd hd2_1 hdn, .inl rfl, Nat.zero_le _, hX⟩
  · skip
    refine xl_pure rfl rfl rfl (pv_not rfl rfl) ?_
    refine xl_pure rfl rfl rfl (pv_move (v := .bool _) rfl rfl) ?_
    refine xl_light rfl rfl rfl (lv_load (v := .agg _) rfl rfl (ld_blk_a m2_2 rfl rfl)) ?_
    refine xl_heavy rfl rfl rfl (hv_call (g := 13) rfl rfl (c13 x2_1 _ _ (own_stks hg2_1) (Nat.lt_of_le_of_lt hgl2_1 (by decide))) rfl) ?_
    rintro v3_5 H3_5 ⟨e3_5, rfl, hg3_5, hE3_5⟩
    have m0_0 := m0_0.ext hE3_5
    have m1_2 := m1_2.ext hE3_5
    have hg2_1 := hg2_1.ext hE3_5
    have m2_2 := m2_2.ext hE3_5
    have hX := hX.trans hE3_5
    rcases hg3_5 with ⟨hg3_5, rfl⟩ | ⟨hg3_5, rfl⟩
    · skip
      refine xl_ndec rfl rfl rfl (pv_neq rfl rfl rfl) (fun h3_6 => ?_) (fun h3_6 => ?_)
      · skip
        refine xl_pure rfl rfl rfl (pv_pick_f (v := .bool _) rfl rfl rfl) ?_
        refine xl_nil ?_
        refine xthen_normal ?_
        refine xc_cond_f rfl ?_
        refine xc_skip ?_
        refine xthen_normal ?_
        refine xc_seq ?_
        refine xc_region ?_
        refine xl_light rfl rfl rfl (lv_load (v := .agg _) rfl rfl (ld_blk_a m2_2 rfl rfl)) ?_
        refine xl_store rfl rfl (hv_storeA (vs := [.int _ _, .int _ _, .int _ _, .int _ _, .int _ _, .int _ _, .int _ _, .int _ _, .int _ _, .int _ _, .int _ _, .slice _ _ _, .int _ _, .int _ _, .int _ _, .int _ _]) rfl rfl rfl (m0_0) rfl (by rfl) rfl) ?_
        rintro v5_1 H5_1 ⟨hU5_1, hZ5_1⟩
        have m1_2 := m1_2.off hU5_1.but (nm0_0_1_2.symm)
        have hg2_1 := hg2_1.offU m0_0 hU5_1.but (.inl rfl)
        have m2_2 := m2_2.off hU5_1.but (nm0_0_2_2.symm)
        have hX := hX.upd hU5_1.but gb0_0
        have m0_0 := hU5_1.blk
        refine xl_pure rfl rfl rfl (pv_assign (v := .int _ _) rfl rfl) ?_
        refine xl_nil ?_
        refine xthen_normal ?_
        refine xc_ret ?_
        refine fin_ret (resv2 rfl (rv_c (ty := 26) rfl (ld_blk_a m0_0 rfl rfl)) (rv_t (v := .int _ _) rfl)) ?_
        exact ⟨0, x2_1, _, _, rfl, read_ok2 hd2_1 hx2_1 hdn hg3_5, own_stks hg2_1, hgl2_1, hX⟩
      · exact absurd (by decide) h3_6
    · skip
      refine xl_ndec rfl rfl rfl (pv_neq rfl rfl rfl) (fun h3_6 => ?_) (fun h3_6 => ?_)
      · exact absurd h3_6 (by decide)
      · skip
        refine xl_pure rfl rfl rfl (pv_pick_f (v := .bool _) rfl rfl rfl) ?_
        refine xl_nil ?_
        refine xthen_normal ?_
        refine xc_cond_t rfl ?_
        refine xc_seq ?_
        refine xc_region ?_
        refine xl_pure rfl rfl rfl (pv_build_s (cs := [.int _ _, .int _ _, .int _ _, .int _ _, .int _ _, .int _ _, .int _ _, .int _ _, .int _ _, .int _ _, .int _ _, .slice _ _ _, .int _ _, .int _ _, .int _ _, .int _ _]) rfl rfl rfl) ?_
        refine xl_store rfl rfl (hv_storeA (vs := [.int _ _, .int _ _, .int _ _, .int _ _, .int _ _, .int _ _, .int _ _, .int _ _, .int _ _, .int _ _, .int _ _, .slice _ _ _, .int _ _, .int _ _, .int _ _, .int _ _]) rfl rfl rfl (m0_0) rfl (by rfl) rfl) ?_
        rintro v4_1 H4_1 ⟨hU4_1, hZ4_1⟩
        have m1_2 := m1_2.off hU4_1.but (nm0_0_1_2.symm)
        have hg2_1 := hg2_1.offU m0_0 hU4_1.but (.inl rfl)
        have m2_2 := m2_2.off hU4_1.but (nm0_0_2_2.symm)
        have hX := hX.upd hU4_1.but gb0_0
        have m0_0 := hU4_1.blk
        refine xl_pure rfl rfl rfl (pv_assign (v := .int _ _) rfl rfl) ?_
        refine xl_nil ?_
        refine xthen_normal ?_
        refine xc_ret ?_
        refine xthen_ret ?_
        refine fin_ret (resv2 rfl (rv_c (ty := 26) rfl (ld_blk_a m0_0 rfl rfl)) (rv_t (v := .int _ _) rfl)) ?_
        first
          | exact ⟨2, J0, none, 0, rfl, read_ng2 hd2_1 hx2_1 hdn hg3_5, .inl rfl, Nat.zero_le _, hX⟩
          | exact ⟨2, J0, none, 0, rfl, read_nd hd2_1 hdn, .inl rfl, Nat.zero_le _, hX⟩
end Go.XG
