/-
  Walks of the seat's functions over the logic XG: each function, what it computes. Printed by a program out of wip/walks.py.
-/
import Derived.Test.YtnbgdklgcoofkaaI
import Derived.Test.YtnbgdklgcoofkaaTo
import Derived.Test.YtnbgdklgcoofkaaTa
import Derived.Test.YtnbgdklgcoofkaaTb
import Derived.Test.YtnbgdklgcoofkaaTc
import Derived.Test.YtnbgdklgcoofkaaTd
import Derived.Test.YtnbgdklgcoofkaaP
import Derived.Test.YtnbgdklgcoofkaaWa
import Derived.Test.YtnbgdklgcoofkaaWb
namespace Go.XG
open Go.Proofs
set_option maxRecDepth 4000
set_option maxHeartbeats 4000000
theorem c21 {O : Outer} {H : Heap} (o : Int) :
    FnC Try.prog 21 #[.int .i64 o] O H (fun v H' => v = .agg #[.int .i64 o, .int .i64 0, .int .i64 0, .int .i64 0] ∧ Ext H H') := by
  refine fn_enter (A := [.int .i64 o]) Try.func21 rfl rfl ?_
  have hX := Ext.refl H
  refine xc_seq ?_
  refine xc_region ?_
  refine xl_heavy rfl rfl rfl (hv_alloc rfl rfl) ?_
  rintro v0_0 H0_0 ⟨b0_0, rfl, hN0_0⟩
  have gb0_0 := hX.fresh hN0_0
  have hX := hX.trans hN0_0.ext
  have m0_0 := hN0_0.blk
  refine xl_nil ?_
  refine xthen_normal ?_
  refine xc_seq ?_
  refine xc_region ?_
  refine xl_pure rfl rfl rfl (pv_move (v := .int _ _) rfl rfl) ?_
  refine xl_pure rfl rfl rfl (pv_build_a (cs := [.int _ _, .int _ _, .int _ _, .int _ _]) rfl rfl rfl) ?_
  refine xl_store rfl rfl (hv_storeA (vs := [.int _ _, .int _ _, .int _ _, .int _ _]) rfl rfl rfl (m0_0) rfl (by rfl) rfl) ?_
  rintro v1_2 H1_2 ⟨hU1_2, hZ1_2⟩
  have hX := hX.upd hU1_2.but gb0_0
  have m0_0 := hU1_2.blk
  refine xl_nil ?_
  refine xthen_normal ?_
  refine xc_ret ?_
  refine fin_ret (resv1 rfl (rv_c (ty := 57) rfl (ld_blk_a m0_0 rfl rfl))) ?_
  exact ⟨rfl, hX⟩

theorem c8 {O : Outer} {H : Heap} {bp c : Nat} {a : Option Addr} {l : List (List Int)} {g : Int} (mp : Blk H bp [.slice a (l).length c, .int .i64 g] 29) (hR : RowsT H 75 13 a l) (hc : l.length ≤ c) (hna : a = none → c = 0) (hl : l.length < 1000000) (hg : Goo l) (o : Int) :
    FnC Try.prog 8 #[.pointer (some ⟨bp, 0, none⟩), .int .i64 o] O H (fun v H' => (hasK l [o, 0, 0, 0] = true ∧ v = .tuple #[.agg (ints ((gr l (bel l [o, 0, 0, 0])).drop 4)).toArray, .int .i64 0] ∨ hasK l [o, 0, 0, 0] = false ∧ v = .tuple #[.agg (ints (List.replicate 9 0)).toArray, .int .i64 3]) ∧ Ext H H') := by
  refine fn_enter (A := [.pointer (some ⟨bp, 0, none⟩), .int .i64 o]) Try.func8 rfl rfl ?_
  have hX := Ext.refl H
  refine xc_seq ?_
  refine xc_region ?_
  refine xl_heavy rfl rfl rfl (hv_alloc rfl rfl) ?_
  rintro v0_0 H0_0 ⟨b0_0, rfl, hN0_0⟩
  have gb0_0 := hX.fresh hN0_0
  have nmp_0_0 := mp.apart hN0_0
  have mp := mp.ext hN0_0.ext
  have hR := hR.ext hN0_0.ext
  have hX := hX.trans hN0_0.ext
  have m0_0 := hN0_0.blk
  refine xl_pure rfl rfl rfl (pv_assign (v := .int _ _) rfl rfl) ?_
  refine xl_nil ?_
  refine xthen_normal ?_
  refine xc_seq ?_
  refine xc_seq ?_
  refine xc_region ?_
  refine xl_pure rfl rfl rfl (pv_move (v := .pointer _) rfl rfl) ?_
  refine xl_pure rfl rfl rfl (pv_eql_pn rfl rfl rfl) ?_
  refine xl_nil ?_
  refine xthen_normal ?_
  refine xc_cond_f rfl ?_
  refine xc_skip ?_
  refine xthen_normal ?_
  refine xc_seq ?_
  refine xp_start rfl (by repeat (first | with_reducible exact np_fin | with_reducible refine np_then ?_ | with_reducible refine np_block ?_)) (by kernel_rfl) ?_
  refine xp_pure (i := 0) rfl (by kernel_rfl) (by kernel_rfl) rfl rfl rfl (pv_move (v := .pointer _) rfl rfl) ?_
  refine xp_pure (i := 1) rfl (by kernel_rfl) (by kernel_rfl) rfl rfl rfl (pv_nilCheck_p rfl rfl) ?_
  refine xp_pure (i := 2) rfl (by kernel_rfl) (by kernel_rfl) rfl rfl rfl (pv_fieldAddr rfl rfl) ?_
  refine xp_pure (i := 3) rfl (by kernel_rfl) (by kernel_rfl) rfl rfl rfl (pv_move (v := .int _ _) rfl rfl) ?_
  refine xp_heavy2 (i := 4) (j := 9) (by kernel_rfl) ?_ ?_
  · skip
    refine xph_val rfl rfl rfl rfl (hv_call (g := 21) rfl rfl (c21 o) rfl) pn ?_
    rintro v3_4 H3_4 ⟨rfl, hE3_4⟩
    have mp := mp.ext hE3_4
    have hR := hR.ext hE3_4
    have m0_0 := m0_0.ext hE3_4
    have hX := hX.trans hE3_4
    refine ⟨okn, ?_⟩
    refine xp_heavy2 (i := 5) (j := 9) (by kernel_rfl) ?_ ?_
    · skip
      refine xph_val rfl rfl rfl rfl (hv_call (g := 24) rfl rfl (c24 mp hR rfl hg.srt hc hna (by omega) [o, 0, 0, 0] rfl) rfl) pn ?_
      rintro v3_5 H3_5 ⟨hv3_5, hE3_5⟩
      have mp := mp.ext hE3_5
      have hR := hR.ext hE3_5
      have m0_0 := m0_0.ext hE3_5
      have hX := hX.trans hE3_5
      refine ⟨okn, ?_⟩
      cases hh : hasK l [o, 0, 0, 0]
      · skip
        have hv3_5 := hv3_5.trans (get_f hh)
        subst hv3_5
        refine xp_pure (i := 6) rfl (by kernel_rfl) (by kernel_rfl) rfl rfl rfl (pv_move (v := .tuple _) rfl rfl) ?_
        refine xp_pure (i := 7) rfl (by kernel_rfl) (by kernel_rfl) rfl rfl rfl (pv_extract (v := .agg _) rfl rfl rfl) ?_
        refine xp_pure (i := 8) rfl (by kernel_rfl) (by kernel_rfl) rfl rfl rfl (pv_extract (v := .bool _) rfl rfl rfl) ?_
        refine xp_heavy (i := 9) (by kernel_rfl) ?_
        refine xph_val rfl rfl rfl rfl (hv_alloc rfl rfl) pn ?_
        rintro v3_9 H3_9 ⟨b3_9, rfl, hN3_9⟩
        have gb3_9 := hX.fresh hN3_9
        have nmp_3_9 := mp.apart hN3_9
        have nm0_0_3_9 := m0_0.apart hN3_9
        have mp := mp.ext hN3_9.ext
        have hR := hR.ext hN3_9.ext
        have m0_0 := m0_0.ext hN3_9.ext
        have hX := hX.trans hN3_9.ext
        have m3_9 := hN3_9.blk
        refine ⟨okn, ?_⟩
        refine xp_heavy (i := 10) (by kernel_rfl) ?_
        refine xph_store rfl rfl rfl (hv_storeA (vs := ints (List.replicate 9 0)) rfl rfl rfl (m3_9) rfl (by rfl) (ints_one _)) pn ?_
        rintro v3_10 H3_10 ⟨hU3_10, hZ3_10⟩
        have mp := mp.off hU3_10.but (by first | exact nmp_3_9 | exact ⟨mp.ne m3_9 rfl⟩ | exact ⟨mp.ne m3_9 (by assumption)⟩ | exact ⟨Ne.symm (m3_9.ne mp (by assumption))⟩)
        have hR := hR.offT m3_9 hU3_10.but (by first | rfl | assumption)
        have m0_0 := m0_0.off hU3_10.but (by first | exact nm0_0_3_9 | exact ⟨m0_0.ne m3_9 rfl⟩ | exact ⟨m0_0.ne m3_9 (by assumption)⟩ | exact ⟨Ne.symm (m3_9.ne m0_0 (by assumption))⟩)
        have hX := hX.upd hU3_10.but gb3_9
        have m3_9 := hU3_10.blk
        refine ⟨okn, ?_⟩
        refine xp_pure (i := 11) rfl (by kernel_rfl) (by kernel_rfl) rfl rfl rfl (pv_assign (v := .bool _) rfl rfl) ?_
        refine xp_done (by kernel_rfl) ?_
        refine xthen_normal ?_
        refine xc_seq ?_
        refine xc_seq ?_
        refine xc_region ?_
        refine xl_pure rfl rfl rfl (pv_move (v := .bool _) rfl rfl) ?_
        refine xl_pure rfl rfl rfl (pv_not rfl rfl) ?_
        refine xl_nil ?_
        refine xthen_normal ?_
        refine xc_cond_t rfl ?_
        refine xc_seq ?_
        refine xc_region ?_
        refine xl_pure rfl rfl rfl (pv_build_s (cs := [.int _ _, .int _ _, .int _ _, .int _ _, .int _ _, .int _ _, .int _ _, .int _ _, .int _ _]) rfl rfl rfl) ?_
        refine xl_store rfl rfl (hv_storeA (vs := [.int _ _, .int _ _, .int _ _, .int _ _, .int _ _, .int _ _, .int _ _, .int _ _, .int _ _]) rfl rfl rfl (m0_0) rfl (by rfl) rfl) ?_
        rintro v5_1 H5_1 ⟨hU5_1, hZ5_1⟩
        have mp := mp.off hU5_1.but (by first | exact nmp_0_0 | exact ⟨mp.ne m0_0 rfl⟩ | exact ⟨mp.ne m0_0 (by assumption)⟩ | exact ⟨Ne.symm (m0_0.ne mp (by assumption))⟩)
        have hR := hR.offT m0_0 hU5_1.but (by first | rfl | assumption)
        have m3_9 := m3_9.off hU5_1.but (by first | exact nm0_0_3_9.symm | exact ⟨m3_9.ne m0_0 rfl⟩ | exact ⟨m3_9.ne m0_0 (by assumption)⟩ | exact ⟨Ne.symm (m0_0.ne m3_9 (by assumption))⟩)
        have hX := hX.upd hU5_1.but gb0_0
        have m0_0 := hU5_1.blk
        refine xl_pure rfl rfl rfl (pv_assign (v := .int _ _) rfl rfl) ?_
        refine xl_nil ?_
        refine xthen_normal ?_
        refine xc_ret ?_
        refine xthen_ret ?_
        refine fin_ret (resv2 rfl (rv_c (ty := 23) rfl (ld_blk_a m0_0 rfl rfl)) (rv_t (v := .int _ _) rfl)) ?_
        exact ⟨.inr ⟨rfl, rfl⟩, hX⟩
      · skip
        have hv3_5 := hv3_5.trans (get_t hh)
        subst hv3_5
        have hd9 := hg.len9 hh
        refine xp_pure (i := 6) rfl (by kernel_rfl) (by kernel_rfl) rfl rfl rfl (pv_move (v := .tuple _) rfl rfl) ?_
        refine xp_pure (i := 7) rfl (by kernel_rfl) (by kernel_rfl) rfl rfl rfl (pv_extract (v := .agg _) rfl rfl rfl) ?_
        refine xp_pure (i := 8) rfl (by kernel_rfl) (by kernel_rfl) rfl rfl rfl (pv_extract (v := .bool _) rfl rfl rfl) ?_
        refine xp_heavy (i := 9) (by kernel_rfl) ?_
        refine xph_val rfl rfl rfl rfl (hv_alloc rfl rfl) pn ?_
        rintro v3_9 H3_9 ⟨b3_9, rfl, hN3_9⟩
        have gb3_9 := hX.fresh hN3_9
        have nmp_3_9 := mp.apart hN3_9
        have nm0_0_3_9 := m0_0.apart hN3_9
        have mp := mp.ext hN3_9.ext
        have hR := hR.ext hN3_9.ext
        have m0_0 := m0_0.ext hN3_9.ext
        have hX := hX.trans hN3_9.ext
        have m3_9 := hN3_9.blk
        refine ⟨okn, ?_⟩
        refine xp_heavy (i := 10) (by kernel_rfl) ?_
        refine xph_store rfl rfl rfl (hv_storeA (vs := ints ((gr l (bel l [o, 0, 0, 0])).drop 4)) rfl rfl rfl (m3_9) (ints_ten hd9) (by rfl) (ints_one _)) pn ?_
        rintro v3_10 H3_10 ⟨hU3_10, hZ3_10⟩
        have mp := mp.off hU3_10.but (by first | exact nmp_3_9 | exact ⟨mp.ne m3_9 rfl⟩ | exact ⟨mp.ne m3_9 (by assumption)⟩ | exact ⟨Ne.symm (m3_9.ne mp (by assumption))⟩)
        have hR := hR.offT m3_9 hU3_10.but (by first | rfl | assumption)
        have m0_0 := m0_0.off hU3_10.but (by first | exact nm0_0_3_9 | exact ⟨m0_0.ne m3_9 rfl⟩ | exact ⟨m0_0.ne m3_9 (by assumption)⟩ | exact ⟨Ne.symm (m3_9.ne m0_0 (by assumption))⟩)
        have hX := hX.upd hU3_10.but gb3_9
        have m3_9 := hU3_10.blk
        refine ⟨okn, ?_⟩
        refine xp_pure (i := 11) rfl (by kernel_rfl) (by kernel_rfl) rfl rfl rfl (pv_assign (v := .bool _) rfl rfl) ?_
        refine xp_done (by kernel_rfl) ?_
        refine xthen_normal ?_
        refine xc_seq ?_
        refine xc_seq ?_
        refine xc_region ?_
        refine xl_pure rfl rfl rfl (pv_move (v := .bool _) rfl rfl) ?_
        refine xl_pure rfl rfl rfl (pv_not rfl rfl) ?_
        refine xl_nil ?_
        refine xthen_normal ?_
        refine xc_cond_f rfl ?_
        refine xc_skip ?_
        refine xthen_normal ?_
        refine xc_seq ?_
        refine xc_region ?_
        refine xl_light rfl rfl rfl (lv_load (v := .agg _) rfl rfl (ld_ints m3_9 hd9)) ?_
        refine xl_store rfl rfl (hv_storeA (vs := ints ((gr l (bel l [o, 0, 0, 0])).drop 4)) rfl rfl rfl (m0_0) (ints_ten hd9) (by rfl) (ints_one _)) ?_
        rintro v6_1 H6_1 ⟨hU6_1, hZ6_1⟩
        have mp := mp.off hU6_1.but (by first | exact nmp_0_0 | exact ⟨mp.ne m0_0 rfl⟩ | exact ⟨mp.ne m0_0 (by assumption)⟩ | exact ⟨Ne.symm (m0_0.ne mp (by assumption))⟩)
        have hR := hR.offT m0_0 hU6_1.but (by first | rfl | assumption)
        have m3_9 := m3_9.off hU6_1.but (by first | exact nm0_0_3_9.symm | exact ⟨m3_9.ne m0_0 rfl⟩ | exact ⟨m3_9.ne m0_0 (by assumption)⟩ | exact ⟨Ne.symm (m0_0.ne m3_9 (by assumption))⟩)
        have hX := hX.upd hU6_1.but gb0_0
        have m0_0 := hU6_1.blk
        refine xl_pure rfl rfl rfl (pv_assign (v := .int _ _) rfl rfl) ?_
        refine xl_nil ?_
        refine xthen_normal ?_
        refine xc_ret ?_
        refine fin_ret (resv2 rfl (rv_c (ty := 23) rfl (ld_ints m0_0 hd9)) (rv_t (v := .int _ _) rfl)) ?_
        exact ⟨.inl ⟨rfl, rfl⟩, hX⟩
    · skip
      refine xph_val rfl rfl rfl rfl (hv_alloc rfl rfl) pn ?_
      rintro v3_9 H3_9 ⟨b3_9, rfl, hN3_9⟩
      have gb3_9 := hX.fresh hN3_9
      have nmp_3_9 := mp.apart hN3_9
      have nm0_0_3_9 := m0_0.apart hN3_9
      have mp := mp.ext hN3_9.ext
      have hR := hR.ext hN3_9.ext
      have m0_0 := m0_0.ext hN3_9.ext
      have hX := hX.trans hN3_9.ext
      have m3_9 := hN3_9.blk
      refine ⟨okn, ?_⟩
      refine xp_heavy (i := 5) (by kernel_rfl) ?_
      refine xph_val rfl rfl rfl rfl (hv_call (g := 24) rfl rfl (c24 mp hR rfl hg.srt hc hna (by omega) [o, 0, 0, 0] rfl) rfl) pn ?_
      rintro v3_5 H3_5 ⟨hv3_5, hE3_5⟩
      have mp := mp.ext hE3_5
      have hR := hR.ext hE3_5
      have m0_0 := m0_0.ext hE3_5
      have m3_9 := m3_9.ext hE3_5
      have hX := hX.trans hE3_5
      refine ⟨okn, ?_⟩
      cases hh : hasK l [o, 0, 0, 0]
      · skip
        have hv3_5 := hv3_5.trans (get_f hh)
        subst hv3_5
        refine xp_pure (i := 6) rfl (by kernel_rfl) (by kernel_rfl) rfl rfl rfl (pv_move (v := .tuple _) rfl rfl) ?_
        refine xp_pure (i := 7) rfl (by kernel_rfl) (by kernel_rfl) rfl rfl rfl (pv_extract (v := .agg _) rfl rfl rfl) ?_
        refine xp_pure (i := 8) rfl (by kernel_rfl) (by kernel_rfl) rfl rfl rfl (pv_extract (v := .bool _) rfl rfl rfl) ?_
        refine xp_heavy (i := 10) (by kernel_rfl) ?_
        refine xph_store rfl rfl rfl (hv_storeA (vs := ints (List.replicate 9 0)) rfl rfl rfl (m3_9) rfl (by rfl) (ints_one _)) pn ?_
        rintro v3_10 H3_10 ⟨hU3_10, hZ3_10⟩
        have mp := mp.off hU3_10.but (by first | exact nmp_3_9 | exact ⟨mp.ne m3_9 rfl⟩ | exact ⟨mp.ne m3_9 (by assumption)⟩ | exact ⟨Ne.symm (m3_9.ne mp (by assumption))⟩)
        have hR := hR.offT m3_9 hU3_10.but (by first | rfl | assumption)
        have m0_0 := m0_0.off hU3_10.but (by first | exact nm0_0_3_9 | exact ⟨m0_0.ne m3_9 rfl⟩ | exact ⟨m0_0.ne m3_9 (by assumption)⟩ | exact ⟨Ne.symm (m3_9.ne m0_0 (by assumption))⟩)
        have hX := hX.upd hU3_10.but gb3_9
        have m3_9 := hU3_10.blk
        refine ⟨okn, ?_⟩
        refine xp_pure (i := 11) rfl (by kernel_rfl) (by kernel_rfl) rfl rfl rfl (pv_assign (v := .bool _) rfl rfl) ?_
        refine xp_done (by kernel_rfl) ?_
        refine xthen_normal ?_
        refine xc_seq ?_
        refine xc_seq ?_
        refine xc_region ?_
        refine xl_pure rfl rfl rfl (pv_move (v := .bool _) rfl rfl) ?_
        refine xl_pure rfl rfl rfl (pv_not rfl rfl) ?_
        refine xl_nil ?_
        refine xthen_normal ?_
        refine xc_cond_t rfl ?_
        refine xc_seq ?_
        refine xc_region ?_
        refine xl_pure rfl rfl rfl (pv_build_s (cs := [.int _ _, .int _ _, .int _ _, .int _ _, .int _ _, .int _ _, .int _ _, .int _ _, .int _ _]) rfl rfl rfl) ?_
        refine xl_store rfl rfl (hv_storeA (vs := [.int _ _, .int _ _, .int _ _, .int _ _, .int _ _, .int _ _, .int _ _, .int _ _, .int _ _]) rfl rfl rfl (m0_0) rfl (by rfl) rfl) ?_
        rintro v5_1 H5_1 ⟨hU5_1, hZ5_1⟩
        have mp := mp.off hU5_1.but (by first | exact nmp_0_0 | exact ⟨mp.ne m0_0 rfl⟩ | exact ⟨mp.ne m0_0 (by assumption)⟩ | exact ⟨Ne.symm (m0_0.ne mp (by assumption))⟩)
        have hR := hR.offT m0_0 hU5_1.but (by first | rfl | assumption)
        have m3_9 := m3_9.off hU5_1.but (by first | exact nm0_0_3_9.symm | exact ⟨m3_9.ne m0_0 rfl⟩ | exact ⟨m3_9.ne m0_0 (by assumption)⟩ | exact ⟨Ne.symm (m0_0.ne m3_9 (by assumption))⟩)
        have hX := hX.upd hU5_1.but gb0_0
        have m0_0 := hU5_1.blk
        refine xl_pure rfl rfl rfl (pv_assign (v := .int _ _) rfl rfl) ?_
        refine xl_nil ?_
        refine xthen_normal ?_
        refine xc_ret ?_
        refine xthen_ret ?_
        refine fin_ret (resv2 rfl (rv_c (ty := 23) rfl (ld_blk_a m0_0 rfl rfl)) (rv_t (v := .int _ _) rfl)) ?_
        exact ⟨.inr ⟨rfl, rfl⟩, hX⟩
      · skip
        have hv3_5 := hv3_5.trans (get_t hh)
        subst hv3_5
        have hd9 := hg.len9 hh
        refine xp_pure (i := 6) rfl (by kernel_rfl) (by kernel_rfl) rfl rfl rfl (pv_move (v := .tuple _) rfl rfl) ?_
        refine xp_pure (i := 7) rfl (by kernel_rfl) (by kernel_rfl) rfl rfl rfl (pv_extract (v := .agg _) rfl rfl rfl) ?_
        refine xp_pure (i := 8) rfl (by kernel_rfl) (by kernel_rfl) rfl rfl rfl (pv_extract (v := .bool _) rfl rfl rfl) ?_
        refine xp_heavy (i := 10) (by kernel_rfl) ?_
        refine xph_store rfl rfl rfl (hv_storeA (vs := ints ((gr l (bel l [o, 0, 0, 0])).drop 4)) rfl rfl rfl (m3_9) (ints_ten hd9) (by rfl) (ints_one _)) pn ?_
        rintro v3_10 H3_10 ⟨hU3_10, hZ3_10⟩
        have mp := mp.off hU3_10.but (by first | exact nmp_3_9 | exact ⟨mp.ne m3_9 rfl⟩ | exact ⟨mp.ne m3_9 (by assumption)⟩ | exact ⟨Ne.symm (m3_9.ne mp (by assumption))⟩)
        have hR := hR.offT m3_9 hU3_10.but (by first | rfl | assumption)
        have m0_0 := m0_0.off hU3_10.but (by first | exact nm0_0_3_9 | exact ⟨m0_0.ne m3_9 rfl⟩ | exact ⟨m0_0.ne m3_9 (by assumption)⟩ | exact ⟨Ne.symm (m3_9.ne m0_0 (by assumption))⟩)
        have hX := hX.upd hU3_10.but gb3_9
        have m3_9 := hU3_10.blk
        refine ⟨okn, ?_⟩
        refine xp_pure (i := 11) rfl (by kernel_rfl) (by kernel_rfl) rfl rfl rfl (pv_assign (v := .bool _) rfl rfl) ?_
        refine xp_done (by kernel_rfl) ?_
        refine xthen_normal ?_
        refine xc_seq ?_
        refine xc_seq ?_
        refine xc_region ?_
        refine xl_pure rfl rfl rfl (pv_move (v := .bool _) rfl rfl) ?_
        refine xl_pure rfl rfl rfl (pv_not rfl rfl) ?_
        refine xl_nil ?_
        refine xthen_normal ?_
        refine xc_cond_f rfl ?_
        refine xc_skip ?_
        refine xthen_normal ?_
        refine xc_seq ?_
        refine xc_region ?_
        refine xl_light rfl rfl rfl (lv_load (v := .agg _) rfl rfl (ld_ints m3_9 hd9)) ?_
        refine xl_store rfl rfl (hv_storeA (vs := ints ((gr l (bel l [o, 0, 0, 0])).drop 4)) rfl rfl rfl (m0_0) (ints_ten hd9) (by rfl) (ints_one _)) ?_
        rintro v6_1 H6_1 ⟨hU6_1, hZ6_1⟩
        have mp := mp.off hU6_1.but (by first | exact nmp_0_0 | exact ⟨mp.ne m0_0 rfl⟩ | exact ⟨mp.ne m0_0 (by assumption)⟩ | exact ⟨Ne.symm (m0_0.ne mp (by assumption))⟩)
        have hR := hR.offT m0_0 hU6_1.but (by first | rfl | assumption)
        have m3_9 := m3_9.off hU6_1.but (by first | exact nm0_0_3_9.symm | exact ⟨m3_9.ne m0_0 rfl⟩ | exact ⟨m3_9.ne m0_0 (by assumption)⟩ | exact ⟨Ne.symm (m0_0.ne m3_9 (by assumption))⟩)
        have hX := hX.upd hU6_1.but gb0_0
        have m0_0 := hU6_1.blk
        refine xl_pure rfl rfl rfl (pv_assign (v := .int _ _) rfl rfl) ?_
        refine xl_nil ?_
        refine xthen_normal ?_
        refine xc_ret ?_
        refine fin_ret (resv2 rfl (rv_c (ty := 23) rfl (ld_ints m0_0 hd9)) (rv_t (v := .int _ _) rfl)) ?_
        exact ⟨.inl ⟨rfl, rfl⟩, hX⟩
  · skip
    refine xph_val rfl rfl rfl rfl (hv_alloc rfl rfl) pn ?_
    rintro v3_9 H3_9 ⟨b3_9, rfl, hN3_9⟩
    have gb3_9 := hX.fresh hN3_9
    have nmp_3_9 := mp.apart hN3_9
    have nm0_0_3_9 := m0_0.apart hN3_9
    have mp := mp.ext hN3_9.ext
    have hR := hR.ext hN3_9.ext
    have m0_0 := m0_0.ext hN3_9.ext
    have hX := hX.trans hN3_9.ext
    have m3_9 := hN3_9.blk
    refine ⟨okn, ?_⟩
    refine xp_heavy (i := 4) (by kernel_rfl) ?_
    refine xph_val rfl rfl rfl rfl (hv_call (g := 21) rfl rfl (c21 o) rfl) pn ?_
    rintro v3_4 H3_4 ⟨rfl, hE3_4⟩
    have mp := mp.ext hE3_4
    have hR := hR.ext hE3_4
    have m0_0 := m0_0.ext hE3_4
    have m3_9 := m3_9.ext hE3_4
    have hX := hX.trans hE3_4
    refine ⟨okn, ?_⟩
    refine xp_heavy (i := 5) (by kernel_rfl) ?_
    refine xph_val rfl rfl rfl rfl (hv_call (g := 24) rfl rfl (c24 mp hR rfl hg.srt hc hna (by omega) [o, 0, 0, 0] rfl) rfl) pn ?_
    rintro v3_5 H3_5 ⟨hv3_5, hE3_5⟩
    have mp := mp.ext hE3_5
    have hR := hR.ext hE3_5
    have m0_0 := m0_0.ext hE3_5
    have m3_9 := m3_9.ext hE3_5
    have hX := hX.trans hE3_5
    refine ⟨okn, ?_⟩
    cases hh : hasK l [o, 0, 0, 0]
    · skip
      have hv3_5 := hv3_5.trans (get_f hh)
      subst hv3_5
      refine xp_pure (i := 6) rfl (by kernel_rfl) (by kernel_rfl) rfl rfl rfl (pv_move (v := .tuple _) rfl rfl) ?_
      refine xp_pure (i := 7) rfl (by kernel_rfl) (by kernel_rfl) rfl rfl rfl (pv_extract (v := .agg _) rfl rfl rfl) ?_
      refine xp_pure (i := 8) rfl (by kernel_rfl) (by kernel_rfl) rfl rfl rfl (pv_extract (v := .bool _) rfl rfl rfl) ?_
      refine xp_heavy (i := 10) (by kernel_rfl) ?_
      refine xph_store rfl rfl rfl (hv_storeA (vs := ints (List.replicate 9 0)) rfl rfl rfl (m3_9) rfl (by rfl) (ints_one _)) pn ?_
      rintro v3_10 H3_10 ⟨hU3_10, hZ3_10⟩
      have mp := mp.off hU3_10.but (by first | exact nmp_3_9 | exact ⟨mp.ne m3_9 rfl⟩ | exact ⟨mp.ne m3_9 (by assumption)⟩ | exact ⟨Ne.symm (m3_9.ne mp (by assumption))⟩)
      have hR := hR.offT m3_9 hU3_10.but (by first | rfl | assumption)
      have m0_0 := m0_0.off hU3_10.but (by first | exact nm0_0_3_9 | exact ⟨m0_0.ne m3_9 rfl⟩ | exact ⟨m0_0.ne m3_9 (by assumption)⟩ | exact ⟨Ne.symm (m3_9.ne m0_0 (by assumption))⟩)
      have hX := hX.upd hU3_10.but gb3_9
      have m3_9 := hU3_10.blk
      refine ⟨okn, ?_⟩
      refine xp_pure (i := 11) rfl (by kernel_rfl) (by kernel_rfl) rfl rfl rfl (pv_assign (v := .bool _) rfl rfl) ?_
      refine xp_done (by kernel_rfl) ?_
      refine xthen_normal ?_
      refine xc_seq ?_
      refine xc_seq ?_
      refine xc_region ?_
      refine xl_pure rfl rfl rfl (pv_move (v := .bool _) rfl rfl) ?_
      refine xl_pure rfl rfl rfl (pv_not rfl rfl) ?_
      refine xl_nil ?_
      refine xthen_normal ?_
      refine xc_cond_t rfl ?_
      refine xc_seq ?_
      refine xc_region ?_
      refine xl_pure rfl rfl rfl (pv_build_s (cs := [.int _ _, .int _ _, .int _ _, .int _ _, .int _ _, .int _ _, .int _ _, .int _ _, .int _ _]) rfl rfl rfl) ?_
      refine xl_store rfl rfl (hv_storeA (vs := [.int _ _, .int _ _, .int _ _, .int _ _, .int _ _, .int _ _, .int _ _, .int _ _, .int _ _]) rfl rfl rfl (m0_0) rfl (by rfl) rfl) ?_
      rintro v5_1 H5_1 ⟨hU5_1, hZ5_1⟩
      have mp := mp.off hU5_1.but (by first | exact nmp_0_0 | exact ⟨mp.ne m0_0 rfl⟩ | exact ⟨mp.ne m0_0 (by assumption)⟩ | exact ⟨Ne.symm (m0_0.ne mp (by assumption))⟩)
      have hR := hR.offT m0_0 hU5_1.but (by first | rfl | assumption)
      have m3_9 := m3_9.off hU5_1.but (by first | exact nm0_0_3_9.symm | exact ⟨m3_9.ne m0_0 rfl⟩ | exact ⟨m3_9.ne m0_0 (by assumption)⟩ | exact ⟨Ne.symm (m0_0.ne m3_9 (by assumption))⟩)
      have hX := hX.upd hU5_1.but gb0_0
      have m0_0 := hU5_1.blk
      refine xl_pure rfl rfl rfl (pv_assign (v := .int _ _) rfl rfl) ?_
      refine xl_nil ?_
      refine xthen_normal ?_
      refine xc_ret ?_
      refine xthen_ret ?_
      refine fin_ret (resv2 rfl (rv_c (ty := 23) rfl (ld_blk_a m0_0 rfl rfl)) (rv_t (v := .int _ _) rfl)) ?_
      exact ⟨.inr ⟨rfl, rfl⟩, hX⟩
    · skip
      have hv3_5 := hv3_5.trans (get_t hh)
      subst hv3_5
      have hd9 := hg.len9 hh
      refine xp_pure (i := 6) rfl (by kernel_rfl) (by kernel_rfl) rfl rfl rfl (pv_move (v := .tuple _) rfl rfl) ?_
      refine xp_pure (i := 7) rfl (by kernel_rfl) (by kernel_rfl) rfl rfl rfl (pv_extract (v := .agg _) rfl rfl rfl) ?_
      refine xp_pure (i := 8) rfl (by kernel_rfl) (by kernel_rfl) rfl rfl rfl (pv_extract (v := .bool _) rfl rfl rfl) ?_
      refine xp_heavy (i := 10) (by kernel_rfl) ?_
      refine xph_store rfl rfl rfl (hv_storeA (vs := ints ((gr l (bel l [o, 0, 0, 0])).drop 4)) rfl rfl rfl (m3_9) (ints_ten hd9) (by rfl) (ints_one _)) pn ?_
      rintro v3_10 H3_10 ⟨hU3_10, hZ3_10⟩
      have mp := mp.off hU3_10.but (by first | exact nmp_3_9 | exact ⟨mp.ne m3_9 rfl⟩ | exact ⟨mp.ne m3_9 (by assumption)⟩ | exact ⟨Ne.symm (m3_9.ne mp (by assumption))⟩)
      have hR := hR.offT m3_9 hU3_10.but (by first | rfl | assumption)
      have m0_0 := m0_0.off hU3_10.but (by first | exact nm0_0_3_9 | exact ⟨m0_0.ne m3_9 rfl⟩ | exact ⟨m0_0.ne m3_9 (by assumption)⟩ | exact ⟨Ne.symm (m3_9.ne m0_0 (by assumption))⟩)
      have hX := hX.upd hU3_10.but gb3_9
      have m3_9 := hU3_10.blk
      refine ⟨okn, ?_⟩
      refine xp_pure (i := 11) rfl (by kernel_rfl) (by kernel_rfl) rfl rfl rfl (pv_assign (v := .bool _) rfl rfl) ?_
      refine xp_done (by kernel_rfl) ?_
      refine xthen_normal ?_
      refine xc_seq ?_
      refine xc_seq ?_
      refine xc_region ?_
      refine xl_pure rfl rfl rfl (pv_move (v := .bool _) rfl rfl) ?_
      refine xl_pure rfl rfl rfl (pv_not rfl rfl) ?_
      refine xl_nil ?_
      refine xthen_normal ?_
      refine xc_cond_f rfl ?_
      refine xc_skip ?_
      refine xthen_normal ?_
      refine xc_seq ?_
      refine xc_region ?_
      refine xl_light rfl rfl rfl (lv_load (v := .agg _) rfl rfl (ld_ints m3_9 hd9)) ?_
      refine xl_store rfl rfl (hv_storeA (vs := ints ((gr l (bel l [o, 0, 0, 0])).drop 4)) rfl rfl rfl (m0_0) (ints_ten hd9) (by rfl) (ints_one _)) ?_
      rintro v6_1 H6_1 ⟨hU6_1, hZ6_1⟩
      have mp := mp.off hU6_1.but (by first | exact nmp_0_0 | exact ⟨mp.ne m0_0 rfl⟩ | exact ⟨mp.ne m0_0 (by assumption)⟩ | exact ⟨Ne.symm (m0_0.ne mp (by assumption))⟩)
      have hR := hR.offT m0_0 hU6_1.but (by first | rfl | assumption)
      have m3_9 := m3_9.off hU6_1.but (by first | exact nm0_0_3_9.symm | exact ⟨m3_9.ne m0_0 rfl⟩ | exact ⟨m3_9.ne m0_0 (by assumption)⟩ | exact ⟨Ne.symm (m0_0.ne m3_9 (by assumption))⟩)
      have hX := hX.upd hU6_1.but gb0_0
      have m0_0 := hU6_1.blk
      refine xl_pure rfl rfl rfl (pv_assign (v := .int _ _) rfl rfl) ?_
      refine xl_nil ?_
      refine xthen_normal ?_
      refine xc_ret ?_
      refine fin_ret (resv2 rfl (rv_c (ty := 23) rfl (ld_ints m0_0 hd9)) (rv_t (v := .int _ _) rfl)) ?_
      exact ⟨.inl ⟨rfl, rfl⟩, hX⟩

theorem c8n {O : Outer} {H : Heap} (o : Int) :
    FnC Try.prog 8 #[.pointer none, .int .i64 o] O H (fun v H' => v = .tuple #[.agg (ints (List.replicate 9 0)).toArray, .int .i64 1] ∧ Ext H H') := by
  refine fn_enter (A := [.pointer none, .int .i64 o]) Try.func8 rfl rfl ?_
  have hX := Ext.refl H
  refine xc_seq ?_
  refine xc_region ?_
  refine xl_heavy rfl rfl rfl (hv_alloc rfl rfl) ?_
  rintro v0_0 H0_0 ⟨b0_0, rfl, hN0_0⟩
  have gb0_0 := hX.fresh hN0_0
  have hX := hX.trans hN0_0.ext
  have m0_0 := hN0_0.blk
  refine xl_pure rfl rfl rfl (pv_assign (v := .int _ _) rfl rfl) ?_
  refine xl_nil ?_
  refine xthen_normal ?_
  refine xc_seq ?_
  refine xc_seq ?_
  refine xc_region ?_
  refine xl_pure rfl rfl rfl (pv_move (v := .pointer _) rfl rfl) ?_
  refine xl_pure rfl rfl rfl (pv_eql_nn rfl rfl rfl) ?_
  refine xl_nil ?_
  refine xthen_normal ?_
  refine xc_cond_t rfl ?_
  refine xc_seq ?_
  refine xc_region ?_
  refine xl_pure rfl rfl rfl (pv_build_s (cs := [.int _ _, .int _ _, .int _ _, .int _ _, .int _ _, .int _ _, .int _ _, .int _ _, .int _ _]) rfl rfl rfl) ?_
  refine xl_store rfl rfl (hv_storeA (vs := [.int _ _, .int _ _, .int _ _, .int _ _, .int _ _, .int _ _, .int _ _, .int _ _, .int _ _]) rfl rfl rfl (m0_0) rfl (by rfl) rfl) ?_
  rintro v2_1 H2_1 ⟨hU2_1, hZ2_1⟩
  have hX := hX.upd hU2_1.but gb0_0
  have m0_0 := hU2_1.blk
  refine xl_pure rfl rfl rfl (pv_assign (v := .int _ _) rfl rfl) ?_
  refine xl_nil ?_
  refine xthen_normal ?_
  refine xc_ret ?_
  refine xthen_ret ?_
  refine fin_ret (resv2 rfl (rv_c (ty := 23) rfl (ld_blk_a m0_0 rfl rfl)) (rv_t (v := .int _ _) rfl)) ?_
  exact ⟨rfl, hX⟩

theorem c25u {O : Outer} {H : Heap} {bp c : Nat} {a : Option Addr} {l : List (List Int)} {g : Int} (mp : Blk H bp [.slice a (l).length c, .int .i64 g] 29) (hR : RowsT H 75 13 a l) (hc : l.length ≤ c) (hna : a = none → c = 0) (hl : l.length < 1000000) (hg : Goo l) (o p q : Int) {b1 b2 : Nat} (m1 : Blk H b1 [.int .i64 p] 3) (m2 : Blk H b2 [.int .i64 q] 3) :
    FnC Try.prog 25 #[.pointer (some ⟨bp, 0, none⟩), .int .i64 o, .func (.func 26) #[] #[.pointer (some ⟨b1, 0, none⟩), .pointer (some ⟨b2, 0, none⟩)]] O H (fun v H' => ∃ a' c', v = .int .i64 (chE (useEL p q) l o) ∧ But bp H H' ∧ Blk H' bp [.slice a' (chL (useEL p q) (useL p q) l o).length c', .int .i64 g] 29 ∧ RowsT H' 75 13 a' (chL (useEL p q) (useL p q) l o) ∧ (chL (useEL p q) (useL p q) l o).length ≤ c' ∧ (a' = none → c' = 0)) := by
  refine fn_enter (A := [.pointer (some ⟨bp, 0, none⟩), .int .i64 o, .func (.func 26) #[] #[.pointer (some ⟨b1, 0, none⟩), .pointer (some ⟨b2, 0, none⟩)]]) Try.func25 rfl rfl ?_
  have hX := But.refl bp H
  refine xc_seq ?_
  refine xc_region ?_
  refine xl_pure rfl rfl rfl (pv_assign (v := .int _ _) rfl rfl) ?_
  refine xl_nil ?_
  refine xthen_normal ?_
  refine xc_seq ?_
  refine xc_region ?_
  refine xl_pure rfl rfl rfl (pv_move (v := .pointer _) rfl rfl) ?_
  refine xl_pure rfl rfl rfl (pv_move (v := .int _ _) rfl rfl) ?_
  refine xl_heavy rfl rfl rfl (hv_call (g := 8) rfl rfl (c8 mp hR hc hna hl hg o) rfl) ?_
  rintro v1_2 H1_2 ⟨hv1_2, hE1_2⟩
  have mp := mp.ext hE1_2
  have hR := hR.ext hE1_2
  have m1 := m1.ext hE1_2
  have m2 := m2.ext hE1_2
  have hX := hX.transE hE1_2
  rcases hv1_2 with ⟨hh, hv1_2⟩ | ⟨hh, rfl⟩
  · skip
    obtain ⟨d0, d1, d2, d3, d4, d5, d6, d7, d8, hd, hi⟩ := hg.at hh
    rw [hd] at hv1_2
    subst hv1_2
    refine xl_pure rfl rfl rfl (pv_move (v := .tuple _) rfl rfl) ?_
    refine xl_pure rfl rfl rfl (pv_extract (v := .agg _) rfl rfl rfl) ?_
    refine xl_pure rfl rfl rfl (pv_extract (v := .int _ _) rfl rfl rfl) ?_
    refine xl_heavy rfl rfl rfl (hv_alloc rfl rfl) ?_
    rintro v1_6 H1_6 ⟨b1_6, rfl, hN1_6⟩
    have gb1_6 := hX.fresh hN1_6
    have nmp_1_6 := mp.apart hN1_6
    have nm1_1_6 := m1.apart hN1_6
    have nm2_1_6 := m2.apart hN1_6
    have mp := mp.ext hN1_6.ext
    have hR := hR.ext hN1_6.ext
    have m1 := m1.ext hN1_6.ext
    have m2 := m2.ext hN1_6.ext
    have hX := hX.transE hN1_6.ext
    have m1_6 := hN1_6.blk
    refine xl_store rfl rfl (hv_storeA (vs := [.int _ _, .int _ _, .int _ _, .int _ _, .int _ _, .int _ _, .int _ _, .int _ _, .int _ _]) rfl rfl rfl (m1_6) rfl (by rfl) rfl) ?_
    rintro v1_7 H1_7 ⟨hU1_7, hZ1_7⟩
    have mp := mp.off hU1_7.but (by first | exact nmp_1_6 | exact ⟨mp.ne m1_6 rfl⟩ | exact ⟨mp.ne m1_6 (by assumption)⟩ | exact ⟨Ne.symm (m1_6.ne mp (by assumption))⟩)
    have hR := hR.offT m1_6 hU1_7.but (by first | rfl | assumption)
    have m1 := m1.off hU1_7.but (by first | exact nm1_1_6 | exact ⟨m1.ne m1_6 rfl⟩ | exact ⟨m1.ne m1_6 (by assumption)⟩ | exact ⟨Ne.symm (m1_6.ne m1 (by assumption))⟩)
    have m2 := m2.off hU1_7.but (by first | exact nm2_1_6 | exact ⟨m2.ne m1_6 rfl⟩ | exact ⟨m2.ne m1_6 (by assumption)⟩ | exact ⟨Ne.symm (m1_6.ne m2 (by assumption))⟩)
    have hX := hX.upd hU1_7.but gb1_6
    have m1_6 := hU1_7.blk
    refine xl_pure rfl rfl rfl (pv_assign (v := .int _ _) rfl rfl) ?_
    refine xl_nil ?_
    refine xthen_normal ?_
    refine xc_seq ?_
    refine xc_seq ?_
    refine xc_region ?_
    refine xl_pure rfl rfl rfl (pv_move (v := .int _ _) rfl rfl) ?_
    refine xl_ndec rfl rfl rfl (pv_neq rfl rfl rfl) (fun h2_1 => ?_) (fun h2_1 => ?_)
    · first
      | (exfalso; omega)
      |  (skip
          refine xl_nil ?_
          refine xthen_normal ?_
          refine xc_cond_f rfl ?_
          refine xc_skip ?_
          refine xthen_normal ?_
          refine xc_seq ?_
          refine xc_region ?_
          refine xl_pure rfl rfl rfl (pv_move rfl rfl) ?_
          refine xl_heavy rfl rfl rfl (hv_call (g := 26) rfl rfl (c26 d0 d1 d2 d3 d4 d5 d6 d7 d8 p q hi m1_6 m1 m2) rfl) ?_
          rintro v4_1 H4_1 ⟨rfl, hB4_1, hT4_1⟩
          have mp := mp.off hB4_1 (by first | exact nmp_1_6 | exact ⟨mp.ne m1_6 rfl⟩ | exact ⟨mp.ne m1_6 (by assumption)⟩ | exact ⟨Ne.symm (m1_6.ne mp (by assumption))⟩)
          have hR := hR.offT m1_6 hB4_1 (by first | rfl | assumption)
          have m1 := m1.off hB4_1 (by first | exact nm1_1_6 | exact ⟨m1.ne m1_6 rfl⟩ | exact ⟨m1.ne m1_6 (by assumption)⟩ | exact ⟨Ne.symm (m1_6.ne m1 (by assumption))⟩)
          have m2 := m2.off hB4_1 (by first | exact nm2_1_6 | exact ⟨m2.ne m1_6 rfl⟩ | exact ⟨m2.ne m1_6 (by assumption)⟩ | exact ⟨Ne.symm (m1_6.ne m2 (by assumption))⟩)
          have hX := hX.upd hB4_1 gb1_6
          have m1_6 := hT4_1
          refine xl_pure rfl rfl rfl (pv_assign (v := .int _ _) rfl rfl) ?_
          refine xl_nil ?_
          refine xthen_normal ?_
          refine xc_seq ?_
          refine xc_seq ?_
          refine xc_region ?_
          refine xl_pure rfl rfl rfl (pv_move (v := .int _ _) rfl rfl) ?_
          refine xl_dec rfl rfl rfl (pv_eql rfl rfl rfl) (fun h5_1 => ?_) (fun h5_1 => ?_)
          · skip
            refine xl_nil ?_
            refine xthen_normal ?_
            refine xc_cond_t rfl ?_
            refine xp_start rfl (by repeat (first | with_reducible exact np_fin | with_reducible refine np_then ?_ | with_reducible refine np_block ?_)) (by kernel_rfl) ?_
            refine xp_pure (i := 0) rfl (by kernel_rfl) (by kernel_rfl) rfl rfl rfl (pv_move (v := .pointer _) rfl rfl) ?_
            refine xp_pure (i := 1) rfl (by kernel_rfl) (by kernel_rfl) rfl rfl rfl (pv_nilCheck_p rfl rfl) ?_
            refine xp_pure (i := 2) rfl (by kernel_rfl) (by kernel_rfl) rfl rfl rfl (pv_fieldAddr rfl rfl) ?_
            refine xp_pure (i := 3) rfl (by kernel_rfl) (by kernel_rfl) rfl rfl rfl (pv_move (v := .int _ _) rfl rfl) ?_
            refine xp_light (i := 5) rfl (by kernel_rfl) (by kernel_rfl) rfl rfl rfl (lv_load (v := .agg _) rfl rfl (ld_blk_a m1_6 rfl rfl)) ?_
            refine xp_heavy (i := 4) (by kernel_rfl) ?_
            refine xph_val rfl rfl rfl rfl (hv_call (g := 21) rfl rfl (c21 o) rfl) (pk (by kernel_rfl) pn) ?_
            rintro v6_4 H6_4 ⟨rfl, hE6_4⟩
            have mp := mp.ext hE6_4
            have hR := hR.ext hE6_4
            have m1 := m1.ext hE6_4
            have m2 := m2.ext hE6_4
            have m1_6 := m1_6.ext hE6_4
            have hX := hX.transE hE6_4
            refine ⟨(okc (lv_load (v := .agg _) rfl rfl (ld_blk_a m1_6 rfl rfl)) okn), ?_⟩
            refine xp_heavy (i := 6) (by kernel_rfl) ?_
            refine xph_val rfl rfl rfl rfl (hv_call (g := 20) rfl rfl (c20 mp hR rfl hg.srt hc hna (by omega) [o, 0, 0, 0] rfl [d0, d1, d2, d3, d4, d5, d6, useR d7 d8 p q, useB d7 d8 p q] rfl) rfl) (pd (by kernel_rfl) pn) ?_
            rintro v6_6 H6_6 ⟨a6_6, c6_6, hv6_6, hU6_6, hR6_6, hc6_6, hna6_6⟩
            have hR := hR.offT mp hU6_6.but (by first | rfl | assumption)
            have m1 := m1.off hU6_6.but (by first | exact nmp_1.symm | exact ⟨m1.ne mp rfl⟩ | exact ⟨m1.ne mp (by assumption)⟩ | exact ⟨Ne.symm (mp.ne m1 (by assumption))⟩)
            have m2 := m2.off hU6_6.but (by first | exact nmp_2.symm | exact ⟨m2.ne mp rfl⟩ | exact ⟨m2.ne mp (by assumption)⟩ | exact ⟨Ne.symm (mp.ne m2 (by assumption))⟩)
            have m1_6 := m1_6.off hU6_6.but (by first | exact nmp_1_6.symm | exact ⟨m1_6.ne mp rfl⟩ | exact ⟨m1_6.ne mp (by assumption)⟩ | exact ⟨Ne.symm (mp.ne m1_6 (by assumption))⟩)
            have hX := hX.trans hU6_6.but
            have mp := hU6_6.blk
            refine ⟨okn, ?_⟩
            refine xp_done (by kernel_rfl) ?_
            refine xthen_normal ?_
            refine xc_seq ?_
            refine xc_region ?_
            refine xl_pure rfl rfl rfl (pv_move (v := .int _ _) rfl rfl) ?_
            refine xl_pure rfl rfl rfl (pv_assign (v := .int _ _) rfl rfl) ?_
            refine xl_nil ?_
            refine xthen_normal ?_
            refine xc_ret ?_
            refine fin_ret (res1 (v := .int _ _) rfl rfl) ?_
            first
              | (obtain ⟨e1, e2⟩ := ch_ok (E := useEL p q) (F := useL p q) hh hd h5_1; exact ⟨_, _, by rw [e1, h5_1], hX, by rw [e2]; exact mp, by rw [e2]; exact hR6_6, by rw [e2]; exact hc6_6, hna6_6⟩)
              | (obtain ⟨e1, e2⟩ := ch_bad (E := useEL p q) (F := useL p q) hh hd h5_1; exact ⟨a, c, by rw [e1]; rfl, hX, by rw [e2]; exact mp, by rw [e2]; exact hR, by rw [e2]; exact hc, hna⟩)
          · skip
            refine xl_nil ?_
            refine xthen_normal ?_
            refine xc_cond_f rfl ?_
            refine xc_skip ?_
            refine xthen_normal ?_
            refine xc_seq ?_
            refine xc_region ?_
            refine xl_pure rfl rfl rfl (pv_move (v := .int _ _) rfl rfl) ?_
            refine xl_pure rfl rfl rfl (pv_assign (v := .int _ _) rfl rfl) ?_
            refine xl_nil ?_
            refine xthen_normal ?_
            refine xc_ret ?_
            refine fin_ret (res1 (v := .int _ _) rfl rfl) ?_
            first
              | (obtain ⟨e1, e2⟩ := ch_ok (E := useEL p q) (F := useL p q) hh hd h5_1; exact ⟨_, _, by rw [e1, h5_1], hX, by rw [e2]; exact mp, by rw [e2]; exact hR6_6, by rw [e2]; exact hc6_6, hna6_6⟩)
              | (obtain ⟨e1, e2⟩ := ch_bad (E := useEL p q) (F := useL p q) hh hd h5_1; exact ⟨a, c, by rw [e1]; rfl, hX, by rw [e2]; exact mp, by rw [e2]; exact hR, by rw [e2]; exact hc, hna⟩))
    · first
      | (exfalso; omega)
      |  (skip
          refine xl_nil ?_
          refine xthen_normal ?_
          refine xc_cond_t rfl ?_
          refine xc_seq ?_
          refine xc_region ?_
          refine xl_pure rfl rfl rfl (pv_move (v := .int _ _) rfl rfl) ?_
          refine xl_pure rfl rfl rfl (pv_assign (v := .int _ _) rfl rfl) ?_
          refine xl_nil ?_
          refine xthen_normal ?_
          refine xc_ret ?_
          refine xthen_ret ?_
          refine fin_ret (res1 (v := .int _ _) rfl rfl) ?_
          obtain ⟨e1, e2⟩ := ch_no (E := useEL p q) (F := useL p q) hh
          exact ⟨a, c, by rw [e1], hX, by rw [e2]; exact mp, by rw [e2]; exact hR, by rw [e2]; exact hc, hna⟩)
  · skip
    refine xl_pure rfl rfl rfl (pv_move (v := .tuple _) rfl rfl) ?_
    refine xl_pure rfl rfl rfl (pv_extract (v := .agg _) rfl rfl rfl) ?_
    refine xl_pure rfl rfl rfl (pv_extract (v := .int _ _) rfl rfl rfl) ?_
    refine xl_heavy rfl rfl rfl (hv_alloc rfl rfl) ?_
    rintro v1_6 H1_6 ⟨b1_6, rfl, hN1_6⟩
    have gb1_6 := hX.fresh hN1_6
    have nmp_1_6 := mp.apart hN1_6
    have nm1_1_6 := m1.apart hN1_6
    have nm2_1_6 := m2.apart hN1_6
    have mp := mp.ext hN1_6.ext
    have hR := hR.ext hN1_6.ext
    have m1 := m1.ext hN1_6.ext
    have m2 := m2.ext hN1_6.ext
    have hX := hX.transE hN1_6.ext
    have m1_6 := hN1_6.blk
    refine xl_store rfl rfl (hv_storeA (vs := [.int _ _, .int _ _, .int _ _, .int _ _, .int _ _, .int _ _, .int _ _, .int _ _, .int _ _]) rfl rfl rfl (m1_6) rfl (by rfl) rfl) ?_
    rintro v1_7 H1_7 ⟨hU1_7, hZ1_7⟩
    have mp := mp.off hU1_7.but (by first | exact nmp_1_6 | exact ⟨mp.ne m1_6 rfl⟩ | exact ⟨mp.ne m1_6 (by assumption)⟩ | exact ⟨Ne.symm (m1_6.ne mp (by assumption))⟩)
    have hR := hR.offT m1_6 hU1_7.but (by first | rfl | assumption)
    have m1 := m1.off hU1_7.but (by first | exact nm1_1_6 | exact ⟨m1.ne m1_6 rfl⟩ | exact ⟨m1.ne m1_6 (by assumption)⟩ | exact ⟨Ne.symm (m1_6.ne m1 (by assumption))⟩)
    have m2 := m2.off hU1_7.but (by first | exact nm2_1_6 | exact ⟨m2.ne m1_6 rfl⟩ | exact ⟨m2.ne m1_6 (by assumption)⟩ | exact ⟨Ne.symm (m1_6.ne m2 (by assumption))⟩)
    have hX := hX.upd hU1_7.but gb1_6
    have m1_6 := hU1_7.blk
    refine xl_pure rfl rfl rfl (pv_assign (v := .int _ _) rfl rfl) ?_
    refine xl_nil ?_
    refine xthen_normal ?_
    refine xc_seq ?_
    refine xc_seq ?_
    refine xc_region ?_
    refine xl_pure rfl rfl rfl (pv_move (v := .int _ _) rfl rfl) ?_
    refine xl_ndec rfl rfl rfl (pv_neq rfl rfl rfl) (fun h2_1 => ?_) (fun h2_1 => ?_)
    · first
      | (exfalso; omega)
      |  (skip
          refine xl_nil ?_
          refine xthen_normal ?_
          refine xc_cond_f rfl ?_
          refine xc_skip ?_
          refine xthen_normal ?_
          refine xc_seq ?_
          refine xc_region ?_
          refine xl_pure rfl rfl rfl (pv_move rfl rfl) ?_
          refine xl_heavy rfl rfl rfl (hv_call (g := 26) rfl rfl (c26 d0 d1 d2 d3 d4 d5 d6 d7 d8 p q hi m1_6 m1 m2) rfl) ?_
          rintro v4_1 H4_1 ⟨rfl, hB4_1, hT4_1⟩
          have mp := mp.off hB4_1 (by first | exact nmp_1_6 | exact ⟨mp.ne m1_6 rfl⟩ | exact ⟨mp.ne m1_6 (by assumption)⟩ | exact ⟨Ne.symm (m1_6.ne mp (by assumption))⟩)
          have hR := hR.offT m1_6 hB4_1 (by first | rfl | assumption)
          have m1 := m1.off hB4_1 (by first | exact nm1_1_6 | exact ⟨m1.ne m1_6 rfl⟩ | exact ⟨m1.ne m1_6 (by assumption)⟩ | exact ⟨Ne.symm (m1_6.ne m1 (by assumption))⟩)
          have m2 := m2.off hB4_1 (by first | exact nm2_1_6 | exact ⟨m2.ne m1_6 rfl⟩ | exact ⟨m2.ne m1_6 (by assumption)⟩ | exact ⟨Ne.symm (m1_6.ne m2 (by assumption))⟩)
          have hX := hX.upd hB4_1 gb1_6
          have m1_6 := hT4_1
          refine xl_pure rfl rfl rfl (pv_assign (v := .int _ _) rfl rfl) ?_
          refine xl_nil ?_
          refine xthen_normal ?_
          refine xc_seq ?_
          refine xc_seq ?_
          refine xc_region ?_
          refine xl_pure rfl rfl rfl (pv_move (v := .int _ _) rfl rfl) ?_
          refine xl_dec rfl rfl rfl (pv_eql rfl rfl rfl) (fun h5_1 => ?_) (fun h5_1 => ?_)
          · skip
            refine xl_nil ?_
            refine xthen_normal ?_
            refine xc_cond_t rfl ?_
            refine xp_start rfl (by repeat (first | with_reducible exact np_fin | with_reducible refine np_then ?_ | with_reducible refine np_block ?_)) (by kernel_rfl) ?_
            refine xp_pure (i := 0) rfl (by kernel_rfl) (by kernel_rfl) rfl rfl rfl (pv_move (v := .pointer _) rfl rfl) ?_
            refine xp_pure (i := 1) rfl (by kernel_rfl) (by kernel_rfl) rfl rfl rfl (pv_nilCheck_p rfl rfl) ?_
            refine xp_pure (i := 2) rfl (by kernel_rfl) (by kernel_rfl) rfl rfl rfl (pv_fieldAddr rfl rfl) ?_
            refine xp_pure (i := 3) rfl (by kernel_rfl) (by kernel_rfl) rfl rfl rfl (pv_move (v := .int _ _) rfl rfl) ?_
            refine xp_light (i := 5) rfl (by kernel_rfl) (by kernel_rfl) rfl rfl rfl (lv_load (v := .agg _) rfl rfl (ld_blk_a m1_6 rfl rfl)) ?_
            refine xp_heavy (i := 4) (by kernel_rfl) ?_
            refine xph_val rfl rfl rfl rfl (hv_call (g := 21) rfl rfl (c21 o) rfl) (pk (by kernel_rfl) pn) ?_
            rintro v6_4 H6_4 ⟨rfl, hE6_4⟩
            have mp := mp.ext hE6_4
            have hR := hR.ext hE6_4
            have m1 := m1.ext hE6_4
            have m2 := m2.ext hE6_4
            have m1_6 := m1_6.ext hE6_4
            have hX := hX.transE hE6_4
            refine ⟨(okc (lv_load (v := .agg _) rfl rfl (ld_blk_a m1_6 rfl rfl)) okn), ?_⟩
            refine xp_heavy (i := 6) (by kernel_rfl) ?_
            refine xph_val rfl rfl rfl rfl (hv_call (g := 20) rfl rfl (c20 mp hR rfl hg.srt hc hna (by omega) [o, 0, 0, 0] rfl [d0, d1, d2, d3, d4, d5, d6, useR d7 d8 p q, useB d7 d8 p q] rfl) rfl) (pd (by kernel_rfl) pn) ?_
            rintro v6_6 H6_6 ⟨a6_6, c6_6, hv6_6, hU6_6, hR6_6, hc6_6, hna6_6⟩
            have hR := hR.offT mp hU6_6.but (by first | rfl | assumption)
            have m1 := m1.off hU6_6.but (by first | exact nmp_1.symm | exact ⟨m1.ne mp rfl⟩ | exact ⟨m1.ne mp (by assumption)⟩ | exact ⟨Ne.symm (mp.ne m1 (by assumption))⟩)
            have m2 := m2.off hU6_6.but (by first | exact nmp_2.symm | exact ⟨m2.ne mp rfl⟩ | exact ⟨m2.ne mp (by assumption)⟩ | exact ⟨Ne.symm (mp.ne m2 (by assumption))⟩)
            have m1_6 := m1_6.off hU6_6.but (by first | exact nmp_1_6.symm | exact ⟨m1_6.ne mp rfl⟩ | exact ⟨m1_6.ne mp (by assumption)⟩ | exact ⟨Ne.symm (mp.ne m1_6 (by assumption))⟩)
            have hX := hX.trans hU6_6.but
            have mp := hU6_6.blk
            refine ⟨okn, ?_⟩
            refine xp_done (by kernel_rfl) ?_
            refine xthen_normal ?_
            refine xc_seq ?_
            refine xc_region ?_
            refine xl_pure rfl rfl rfl (pv_move (v := .int _ _) rfl rfl) ?_
            refine xl_pure rfl rfl rfl (pv_assign (v := .int _ _) rfl rfl) ?_
            refine xl_nil ?_
            refine xthen_normal ?_
            refine xc_ret ?_
            refine fin_ret (res1 (v := .int _ _) rfl rfl) ?_
            first
              | (obtain ⟨e1, e2⟩ := ch_ok (E := useEL p q) (F := useL p q) hh hd h5_1; exact ⟨_, _, by rw [e1, h5_1], hX, by rw [e2]; exact mp, by rw [e2]; exact hR6_6, by rw [e2]; exact hc6_6, hna6_6⟩)
              | (obtain ⟨e1, e2⟩ := ch_bad (E := useEL p q) (F := useL p q) hh hd h5_1; exact ⟨a, c, by rw [e1]; rfl, hX, by rw [e2]; exact mp, by rw [e2]; exact hR, by rw [e2]; exact hc, hna⟩)
          · skip
            refine xl_nil ?_
            refine xthen_normal ?_
            refine xc_cond_f rfl ?_
            refine xc_skip ?_
            refine xthen_normal ?_
            refine xc_seq ?_
            refine xc_region ?_
            refine xl_pure rfl rfl rfl (pv_move (v := .int _ _) rfl rfl) ?_
            refine xl_pure rfl rfl rfl (pv_assign (v := .int _ _) rfl rfl) ?_
            refine xl_nil ?_
            refine xthen_normal ?_
            refine xc_ret ?_
            refine fin_ret (res1 (v := .int _ _) rfl rfl) ?_
            first
              | (obtain ⟨e1, e2⟩ := ch_ok (E := useEL p q) (F := useL p q) hh hd h5_1; exact ⟨_, _, by rw [e1, h5_1], hX, by rw [e2]; exact mp, by rw [e2]; exact hR6_6, by rw [e2]; exact hc6_6, hna6_6⟩)
              | (obtain ⟨e1, e2⟩ := ch_bad (E := useEL p q) (F := useL p q) hh hd h5_1; exact ⟨a, c, by rw [e1]; rfl, hX, by rw [e2]; exact mp, by rw [e2]; exact hR, by rw [e2]; exact hc, hna⟩))
    · first
      | (exfalso; omega)
      |  (skip
          refine xl_nil ?_
          refine xthen_normal ?_
          refine xc_cond_t rfl ?_
          refine xc_seq ?_
          refine xc_region ?_
          refine xl_pure rfl rfl rfl (pv_move (v := .int _ _) rfl rfl) ?_
          refine xl_pure rfl rfl rfl (pv_assign (v := .int _ _) rfl rfl) ?_
          refine xl_nil ?_
          refine xthen_normal ?_
          refine xc_ret ?_
          refine xthen_ret ?_
          refine fin_ret (res1 (v := .int _ _) rfl rfl) ?_
          obtain ⟨e1, e2⟩ := ch_no (E := useEL p q) (F := useL p q) hh
          exact ⟨a, c, by rw [e1], hX, by rw [e2]; exact mp, by rw [e2]; exact hR, by rw [e2]; exact hc, hna⟩)

theorem c25f {O : Outer} {H : Heap} {bp c : Nat} {a : Option Addr} {l : List (List Int)} {g : Int} (mp : Blk H bp [.slice a (l).length c, .int .i64 g] 29) (hR : RowsT H 75 13 a l) (hc : l.length ≤ c) (hna : a = none → c = 0) (hl : l.length < 1000000) (hg : Goo l) (o p q : Int) {b1 b2 : Nat} (m1 : Blk H b1 [.int .i64 p] 3) (m2 : Blk H b2 [.int .i64 q] 3) :
    FnC Try.prog 25 #[.pointer (some ⟨bp, 0, none⟩), .int .i64 o, .func (.func 30) #[] #[.pointer (some ⟨b1, 0, none⟩), .pointer (some ⟨b2, 0, none⟩)]] O H (fun v H' => ∃ a' c', v = .int .i64 (chE (freeEL p q) l o) ∧ But bp H H' ∧ Blk H' bp [.slice a' (chL (freeEL p q) (freeL p q) l o).length c', .int .i64 g] 29 ∧ RowsT H' 75 13 a' (chL (freeEL p q) (freeL p q) l o) ∧ (chL (freeEL p q) (freeL p q) l o).length ≤ c' ∧ (a' = none → c' = 0)) := by
  refine fn_enter (A := [.pointer (some ⟨bp, 0, none⟩), .int .i64 o, .func (.func 30) #[] #[.pointer (some ⟨b1, 0, none⟩), .pointer (some ⟨b2, 0, none⟩)]]) Try.func25 rfl rfl ?_
  have hX := But.refl bp H
  refine xc_seq ?_
  refine xc_region ?_
  refine xl_pure rfl rfl rfl (pv_assign (v := .int _ _) rfl rfl) ?_
  refine xl_nil ?_
  refine xthen_normal ?_
  refine xc_seq ?_
  refine xc_region ?_
  refine xl_pure rfl rfl rfl (pv_move (v := .pointer _) rfl rfl) ?_
  refine xl_pure rfl rfl rfl (pv_move (v := .int _ _) rfl rfl) ?_
  refine xl_heavy rfl rfl rfl (hv_call (g := 8) rfl rfl (c8 mp hR hc hna hl hg o) rfl) ?_
  rintro v1_2 H1_2 ⟨hv1_2, hE1_2⟩
  have mp := mp.ext hE1_2
  have hR := hR.ext hE1_2
  have m1 := m1.ext hE1_2
  have m2 := m2.ext hE1_2
  have hX := hX.transE hE1_2
  rcases hv1_2 with ⟨hh, hv1_2⟩ | ⟨hh, rfl⟩
  · skip
    obtain ⟨d0, d1, d2, d3, d4, d5, d6, d7, d8, hd, hi⟩ := hg.at hh
    rw [hd] at hv1_2
    subst hv1_2
    refine xl_pure rfl rfl rfl (pv_move (v := .tuple _) rfl rfl) ?_
    refine xl_pure rfl rfl rfl (pv_extract (v := .agg _) rfl rfl rfl) ?_
    refine xl_pure rfl rfl rfl (pv_extract (v := .int _ _) rfl rfl rfl) ?_
    refine xl_heavy rfl rfl rfl (hv_alloc rfl rfl) ?_
    rintro v1_6 H1_6 ⟨b1_6, rfl, hN1_6⟩
    have gb1_6 := hX.fresh hN1_6
    have nmp_1_6 := mp.apart hN1_6
    have nm1_1_6 := m1.apart hN1_6
    have nm2_1_6 := m2.apart hN1_6
    have mp := mp.ext hN1_6.ext
    have hR := hR.ext hN1_6.ext
    have m1 := m1.ext hN1_6.ext
    have m2 := m2.ext hN1_6.ext
    have hX := hX.transE hN1_6.ext
    have m1_6 := hN1_6.blk
    refine xl_store rfl rfl (hv_storeA (vs := [.int _ _, .int _ _, .int _ _, .int _ _, .int _ _, .int _ _, .int _ _, .int _ _, .int _ _]) rfl rfl rfl (m1_6) rfl (by rfl) rfl) ?_
    rintro v1_7 H1_7 ⟨hU1_7, hZ1_7⟩
    have mp := mp.off hU1_7.but (by first | exact nmp_1_6 | exact ⟨mp.ne m1_6 rfl⟩ | exact ⟨mp.ne m1_6 (by assumption)⟩ | exact ⟨Ne.symm (m1_6.ne mp (by assumption))⟩)
    have hR := hR.offT m1_6 hU1_7.but (by first | rfl | assumption)
    have m1 := m1.off hU1_7.but (by first | exact nm1_1_6 | exact ⟨m1.ne m1_6 rfl⟩ | exact ⟨m1.ne m1_6 (by assumption)⟩ | exact ⟨Ne.symm (m1_6.ne m1 (by assumption))⟩)
    have m2 := m2.off hU1_7.but (by first | exact nm2_1_6 | exact ⟨m2.ne m1_6 rfl⟩ | exact ⟨m2.ne m1_6 (by assumption)⟩ | exact ⟨Ne.symm (m1_6.ne m2 (by assumption))⟩)
    have hX := hX.upd hU1_7.but gb1_6
    have m1_6 := hU1_7.blk
    refine xl_pure rfl rfl rfl (pv_assign (v := .int _ _) rfl rfl) ?_
    refine xl_nil ?_
    refine xthen_normal ?_
    refine xc_seq ?_
    refine xc_seq ?_
    refine xc_region ?_
    refine xl_pure rfl rfl rfl (pv_move (v := .int _ _) rfl rfl) ?_
    refine xl_ndec rfl rfl rfl (pv_neq rfl rfl rfl) (fun h2_1 => ?_) (fun h2_1 => ?_)
    · first
      | (exfalso; omega)
      |  (skip
          refine xl_nil ?_
          refine xthen_normal ?_
          refine xc_cond_f rfl ?_
          refine xc_skip ?_
          refine xthen_normal ?_
          refine xc_seq ?_
          refine xc_region ?_
          refine xl_pure rfl rfl rfl (pv_move rfl rfl) ?_
          refine xl_heavy rfl rfl rfl (hv_call (g := 30) rfl rfl (c30 d0 d1 d2 d3 d4 d5 d6 d7 d8 p q hi m1_6 m1 m2) rfl) ?_
          rintro v4_1 H4_1 ⟨rfl, hB4_1, hT4_1⟩
          have mp := mp.off hB4_1 (by first | exact nmp_1_6 | exact ⟨mp.ne m1_6 rfl⟩ | exact ⟨mp.ne m1_6 (by assumption)⟩ | exact ⟨Ne.symm (m1_6.ne mp (by assumption))⟩)
          have hR := hR.offT m1_6 hB4_1 (by first | rfl | assumption)
          have m1 := m1.off hB4_1 (by first | exact nm1_1_6 | exact ⟨m1.ne m1_6 rfl⟩ | exact ⟨m1.ne m1_6 (by assumption)⟩ | exact ⟨Ne.symm (m1_6.ne m1 (by assumption))⟩)
          have m2 := m2.off hB4_1 (by first | exact nm2_1_6 | exact ⟨m2.ne m1_6 rfl⟩ | exact ⟨m2.ne m1_6 (by assumption)⟩ | exact ⟨Ne.symm (m1_6.ne m2 (by assumption))⟩)
          have hX := hX.upd hB4_1 gb1_6
          have m1_6 := hT4_1
          refine xl_pure rfl rfl rfl (pv_assign (v := .int _ _) rfl rfl) ?_
          refine xl_nil ?_
          refine xthen_normal ?_
          refine xc_seq ?_
          refine xc_seq ?_
          refine xc_region ?_
          refine xl_pure rfl rfl rfl (pv_move (v := .int _ _) rfl rfl) ?_
          refine xl_dec rfl rfl rfl (pv_eql rfl rfl rfl) (fun h5_1 => ?_) (fun h5_1 => ?_)
          · skip
            refine xl_nil ?_
            refine xthen_normal ?_
            refine xc_cond_t rfl ?_
            refine xp_start rfl (by repeat (first | with_reducible exact np_fin | with_reducible refine np_then ?_ | with_reducible refine np_block ?_)) (by kernel_rfl) ?_
            refine xp_pure (i := 0) rfl (by kernel_rfl) (by kernel_rfl) rfl rfl rfl (pv_move (v := .pointer _) rfl rfl) ?_
            refine xp_pure (i := 1) rfl (by kernel_rfl) (by kernel_rfl) rfl rfl rfl (pv_nilCheck_p rfl rfl) ?_
            refine xp_pure (i := 2) rfl (by kernel_rfl) (by kernel_rfl) rfl rfl rfl (pv_fieldAddr rfl rfl) ?_
            refine xp_pure (i := 3) rfl (by kernel_rfl) (by kernel_rfl) rfl rfl rfl (pv_move (v := .int _ _) rfl rfl) ?_
            refine xp_light (i := 5) rfl (by kernel_rfl) (by kernel_rfl) rfl rfl rfl (lv_load (v := .agg _) rfl rfl (ld_blk_a m1_6 rfl rfl)) ?_
            refine xp_heavy (i := 4) (by kernel_rfl) ?_
            refine xph_val rfl rfl rfl rfl (hv_call (g := 21) rfl rfl (c21 o) rfl) (pk (by kernel_rfl) pn) ?_
            rintro v6_4 H6_4 ⟨rfl, hE6_4⟩
            have mp := mp.ext hE6_4
            have hR := hR.ext hE6_4
            have m1 := m1.ext hE6_4
            have m2 := m2.ext hE6_4
            have m1_6 := m1_6.ext hE6_4
            have hX := hX.transE hE6_4
            refine ⟨(okc (lv_load (v := .agg _) rfl rfl (ld_blk_a m1_6 rfl rfl)) okn), ?_⟩
            refine xp_heavy (i := 6) (by kernel_rfl) ?_
            refine xph_val rfl rfl rfl rfl (hv_call (g := 20) rfl rfl (c20 mp hR rfl hg.srt hc hna (by omega) [o, 0, 0, 0] rfl [d0, d1, d2, d3, d4, d5, d6, freeR d7 d8 p q, freeB d7 d8 p q] rfl) rfl) (pd (by kernel_rfl) pn) ?_
            rintro v6_6 H6_6 ⟨a6_6, c6_6, hv6_6, hU6_6, hR6_6, hc6_6, hna6_6⟩
            have hR := hR.offT mp hU6_6.but (by first | rfl | assumption)
            have m1 := m1.off hU6_6.but (by first | exact nmp_1.symm | exact ⟨m1.ne mp rfl⟩ | exact ⟨m1.ne mp (by assumption)⟩ | exact ⟨Ne.symm (mp.ne m1 (by assumption))⟩)
            have m2 := m2.off hU6_6.but (by first | exact nmp_2.symm | exact ⟨m2.ne mp rfl⟩ | exact ⟨m2.ne mp (by assumption)⟩ | exact ⟨Ne.symm (mp.ne m2 (by assumption))⟩)
            have m1_6 := m1_6.off hU6_6.but (by first | exact nmp_1_6.symm | exact ⟨m1_6.ne mp rfl⟩ | exact ⟨m1_6.ne mp (by assumption)⟩ | exact ⟨Ne.symm (mp.ne m1_6 (by assumption))⟩)
            have hX := hX.trans hU6_6.but
            have mp := hU6_6.blk
            refine ⟨okn, ?_⟩
            refine xp_done (by kernel_rfl) ?_
            refine xthen_normal ?_
            refine xc_seq ?_
            refine xc_region ?_
            refine xl_pure rfl rfl rfl (pv_move (v := .int _ _) rfl rfl) ?_
            refine xl_pure rfl rfl rfl (pv_assign (v := .int _ _) rfl rfl) ?_
            refine xl_nil ?_
            refine xthen_normal ?_
            refine xc_ret ?_
            refine fin_ret (res1 (v := .int _ _) rfl rfl) ?_
            first
              | (obtain ⟨e1, e2⟩ := ch_ok (E := freeEL p q) (F := freeL p q) hh hd h5_1; exact ⟨_, _, by rw [e1, h5_1], hX, by rw [e2]; exact mp, by rw [e2]; exact hR6_6, by rw [e2]; exact hc6_6, hna6_6⟩)
              | (obtain ⟨e1, e2⟩ := ch_bad (E := freeEL p q) (F := freeL p q) hh hd h5_1; exact ⟨a, c, by rw [e1]; rfl, hX, by rw [e2]; exact mp, by rw [e2]; exact hR, by rw [e2]; exact hc, hna⟩)
          · skip
            refine xl_nil ?_
            refine xthen_normal ?_
            refine xc_cond_f rfl ?_
            refine xc_skip ?_
            refine xthen_normal ?_
            refine xc_seq ?_
            refine xc_region ?_
            refine xl_pure rfl rfl rfl (pv_move (v := .int _ _) rfl rfl) ?_
            refine xl_pure rfl rfl rfl (pv_assign (v := .int _ _) rfl rfl) ?_
            refine xl_nil ?_
            refine xthen_normal ?_
            refine xc_ret ?_
            refine fin_ret (res1 (v := .int _ _) rfl rfl) ?_
            first
              | (obtain ⟨e1, e2⟩ := ch_ok (E := freeEL p q) (F := freeL p q) hh hd h5_1; exact ⟨_, _, by rw [e1, h5_1], hX, by rw [e2]; exact mp, by rw [e2]; exact hR6_6, by rw [e2]; exact hc6_6, hna6_6⟩)
              | (obtain ⟨e1, e2⟩ := ch_bad (E := freeEL p q) (F := freeL p q) hh hd h5_1; exact ⟨a, c, by rw [e1]; rfl, hX, by rw [e2]; exact mp, by rw [e2]; exact hR, by rw [e2]; exact hc, hna⟩))
    · first
      | (exfalso; omega)
      |  (skip
          refine xl_nil ?_
          refine xthen_normal ?_
          refine xc_cond_t rfl ?_
          refine xc_seq ?_
          refine xc_region ?_
          refine xl_pure rfl rfl rfl (pv_move (v := .int _ _) rfl rfl) ?_
          refine xl_pure rfl rfl rfl (pv_assign (v := .int _ _) rfl rfl) ?_
          refine xl_nil ?_
          refine xthen_normal ?_
          refine xc_ret ?_
          refine xthen_ret ?_
          refine fin_ret (res1 (v := .int _ _) rfl rfl) ?_
          obtain ⟨e1, e2⟩ := ch_no (E := freeEL p q) (F := freeL p q) hh
          exact ⟨a, c, by rw [e1], hX, by rw [e2]; exact mp, by rw [e2]; exact hR, by rw [e2]; exact hc, hna⟩)
  · skip
    refine xl_pure rfl rfl rfl (pv_move (v := .tuple _) rfl rfl) ?_
    refine xl_pure rfl rfl rfl (pv_extract (v := .agg _) rfl rfl rfl) ?_
    refine xl_pure rfl rfl rfl (pv_extract (v := .int _ _) rfl rfl rfl) ?_
    refine xl_heavy rfl rfl rfl (hv_alloc rfl rfl) ?_
    rintro v1_6 H1_6 ⟨b1_6, rfl, hN1_6⟩
    have gb1_6 := hX.fresh hN1_6
    have nmp_1_6 := mp.apart hN1_6
    have nm1_1_6 := m1.apart hN1_6
    have nm2_1_6 := m2.apart hN1_6
    have mp := mp.ext hN1_6.ext
    have hR := hR.ext hN1_6.ext
    have m1 := m1.ext hN1_6.ext
    have m2 := m2.ext hN1_6.ext
    have hX := hX.transE hN1_6.ext
    have m1_6 := hN1_6.blk
    refine xl_store rfl rfl (hv_storeA (vs := [.int _ _, .int _ _, .int _ _, .int _ _, .int _ _, .int _ _, .int _ _, .int _ _, .int _ _]) rfl rfl rfl (m1_6) rfl (by rfl) rfl) ?_
    rintro v1_7 H1_7 ⟨hU1_7, hZ1_7⟩
    have mp := mp.off hU1_7.but (by first | exact nmp_1_6 | exact ⟨mp.ne m1_6 rfl⟩ | exact ⟨mp.ne m1_6 (by assumption)⟩ | exact ⟨Ne.symm (m1_6.ne mp (by assumption))⟩)
    have hR := hR.offT m1_6 hU1_7.but (by first | rfl | assumption)
    have m1 := m1.off hU1_7.but (by first | exact nm1_1_6 | exact ⟨m1.ne m1_6 rfl⟩ | exact ⟨m1.ne m1_6 (by assumption)⟩ | exact ⟨Ne.symm (m1_6.ne m1 (by assumption))⟩)
    have m2 := m2.off hU1_7.but (by first | exact nm2_1_6 | exact ⟨m2.ne m1_6 rfl⟩ | exact ⟨m2.ne m1_6 (by assumption)⟩ | exact ⟨Ne.symm (m1_6.ne m2 (by assumption))⟩)
    have hX := hX.upd hU1_7.but gb1_6
    have m1_6 := hU1_7.blk
    refine xl_pure rfl rfl rfl (pv_assign (v := .int _ _) rfl rfl) ?_
    refine xl_nil ?_
    refine xthen_normal ?_
    refine xc_seq ?_
    refine xc_seq ?_
    refine xc_region ?_
    refine xl_pure rfl rfl rfl (pv_move (v := .int _ _) rfl rfl) ?_
    refine xl_ndec rfl rfl rfl (pv_neq rfl rfl rfl) (fun h2_1 => ?_) (fun h2_1 => ?_)
    · first
      | (exfalso; omega)
      |  (skip
          refine xl_nil ?_
          refine xthen_normal ?_
          refine xc_cond_f rfl ?_
          refine xc_skip ?_
          refine xthen_normal ?_
          refine xc_seq ?_
          refine xc_region ?_
          refine xl_pure rfl rfl rfl (pv_move rfl rfl) ?_
          refine xl_heavy rfl rfl rfl (hv_call (g := 30) rfl rfl (c30 d0 d1 d2 d3 d4 d5 d6 d7 d8 p q hi m1_6 m1 m2) rfl) ?_
          rintro v4_1 H4_1 ⟨rfl, hB4_1, hT4_1⟩
          have mp := mp.off hB4_1 (by first | exact nmp_1_6 | exact ⟨mp.ne m1_6 rfl⟩ | exact ⟨mp.ne m1_6 (by assumption)⟩ | exact ⟨Ne.symm (m1_6.ne mp (by assumption))⟩)
          have hR := hR.offT m1_6 hB4_1 (by first | rfl | assumption)
          have m1 := m1.off hB4_1 (by first | exact nm1_1_6 | exact ⟨m1.ne m1_6 rfl⟩ | exact ⟨m1.ne m1_6 (by assumption)⟩ | exact ⟨Ne.symm (m1_6.ne m1 (by assumption))⟩)
          have m2 := m2.off hB4_1 (by first | exact nm2_1_6 | exact ⟨m2.ne m1_6 rfl⟩ | exact ⟨m2.ne m1_6 (by assumption)⟩ | exact ⟨Ne.symm (m1_6.ne m2 (by assumption))⟩)
          have hX := hX.upd hB4_1 gb1_6
          have m1_6 := hT4_1
          refine xl_pure rfl rfl rfl (pv_assign (v := .int _ _) rfl rfl) ?_
          refine xl_nil ?_
          refine xthen_normal ?_
          refine xc_seq ?_
          refine xc_seq ?_
          refine xc_region ?_
          refine xl_pure rfl rfl rfl (pv_move (v := .int _ _) rfl rfl) ?_
          refine xl_dec rfl rfl rfl (pv_eql rfl rfl rfl) (fun h5_1 => ?_) (fun h5_1 => ?_)
          · skip
            refine xl_nil ?_
            refine xthen_normal ?_
            refine xc_cond_t rfl ?_
            refine xp_start rfl (by repeat (first | with_reducible exact np_fin | with_reducible refine np_then ?_ | with_reducible refine np_block ?_)) (by kernel_rfl) ?_
            refine xp_pure (i := 0) rfl (by kernel_rfl) (by kernel_rfl) rfl rfl rfl (pv_move (v := .pointer _) rfl rfl) ?_
            refine xp_pure (i := 1) rfl (by kernel_rfl) (by kernel_rfl) rfl rfl rfl (pv_nilCheck_p rfl rfl) ?_
            refine xp_pure (i := 2) rfl (by kernel_rfl) (by kernel_rfl) rfl rfl rfl (pv_fieldAddr rfl rfl) ?_
            refine xp_pure (i := 3) rfl (by kernel_rfl) (by kernel_rfl) rfl rfl rfl (pv_move (v := .int _ _) rfl rfl) ?_
            refine xp_light (i := 5) rfl (by kernel_rfl) (by kernel_rfl) rfl rfl rfl (lv_load (v := .agg _) rfl rfl (ld_blk_a m1_6 rfl rfl)) ?_
            refine xp_heavy (i := 4) (by kernel_rfl) ?_
            refine xph_val rfl rfl rfl rfl (hv_call (g := 21) rfl rfl (c21 o) rfl) (pk (by kernel_rfl) pn) ?_
            rintro v6_4 H6_4 ⟨rfl, hE6_4⟩
            have mp := mp.ext hE6_4
            have hR := hR.ext hE6_4
            have m1 := m1.ext hE6_4
            have m2 := m2.ext hE6_4
            have m1_6 := m1_6.ext hE6_4
            have hX := hX.transE hE6_4
            refine ⟨(okc (lv_load (v := .agg _) rfl rfl (ld_blk_a m1_6 rfl rfl)) okn), ?_⟩
            refine xp_heavy (i := 6) (by kernel_rfl) ?_
            refine xph_val rfl rfl rfl rfl (hv_call (g := 20) rfl rfl (c20 mp hR rfl hg.srt hc hna (by omega) [o, 0, 0, 0] rfl [d0, d1, d2, d3, d4, d5, d6, freeR d7 d8 p q, freeB d7 d8 p q] rfl) rfl) (pd (by kernel_rfl) pn) ?_
            rintro v6_6 H6_6 ⟨a6_6, c6_6, hv6_6, hU6_6, hR6_6, hc6_6, hna6_6⟩
            have hR := hR.offT mp hU6_6.but (by first | rfl | assumption)
            have m1 := m1.off hU6_6.but (by first | exact nmp_1.symm | exact ⟨m1.ne mp rfl⟩ | exact ⟨m1.ne mp (by assumption)⟩ | exact ⟨Ne.symm (mp.ne m1 (by assumption))⟩)
            have m2 := m2.off hU6_6.but (by first | exact nmp_2.symm | exact ⟨m2.ne mp rfl⟩ | exact ⟨m2.ne mp (by assumption)⟩ | exact ⟨Ne.symm (mp.ne m2 (by assumption))⟩)
            have m1_6 := m1_6.off hU6_6.but (by first | exact nmp_1_6.symm | exact ⟨m1_6.ne mp rfl⟩ | exact ⟨m1_6.ne mp (by assumption)⟩ | exact ⟨Ne.symm (mp.ne m1_6 (by assumption))⟩)
            have hX := hX.trans hU6_6.but
            have mp := hU6_6.blk
            refine ⟨okn, ?_⟩
            refine xp_done (by kernel_rfl) ?_
            refine xthen_normal ?_
            refine xc_seq ?_
            refine xc_region ?_
            refine xl_pure rfl rfl rfl (pv_move (v := .int _ _) rfl rfl) ?_
            refine xl_pure rfl rfl rfl (pv_assign (v := .int _ _) rfl rfl) ?_
            refine xl_nil ?_
            refine xthen_normal ?_
            refine xc_ret ?_
            refine fin_ret (res1 (v := .int _ _) rfl rfl) ?_
            first
              | (obtain ⟨e1, e2⟩ := ch_ok (E := freeEL p q) (F := freeL p q) hh hd h5_1; exact ⟨_, _, by rw [e1, h5_1], hX, by rw [e2]; exact mp, by rw [e2]; exact hR6_6, by rw [e2]; exact hc6_6, hna6_6⟩)
              | (obtain ⟨e1, e2⟩ := ch_bad (E := freeEL p q) (F := freeL p q) hh hd h5_1; exact ⟨a, c, by rw [e1]; rfl, hX, by rw [e2]; exact mp, by rw [e2]; exact hR, by rw [e2]; exact hc, hna⟩)
          · skip
            refine xl_nil ?_
            refine xthen_normal ?_
            refine xc_cond_f rfl ?_
            refine xc_skip ?_
            refine xthen_normal ?_
            refine xc_seq ?_
            refine xc_region ?_
            refine xl_pure rfl rfl rfl (pv_move (v := .int _ _) rfl rfl) ?_
            refine xl_pure rfl rfl rfl (pv_assign (v := .int _ _) rfl rfl) ?_
            refine xl_nil ?_
            refine xthen_normal ?_
            refine xc_ret ?_
            refine fin_ret (res1 (v := .int _ _) rfl rfl) ?_
            first
              | (obtain ⟨e1, e2⟩ := ch_ok (E := freeEL p q) (F := freeL p q) hh hd h5_1; exact ⟨_, _, by rw [e1, h5_1], hX, by rw [e2]; exact mp, by rw [e2]; exact hR6_6, by rw [e2]; exact hc6_6, hna6_6⟩)
              | (obtain ⟨e1, e2⟩ := ch_bad (E := freeEL p q) (F := freeL p q) hh hd h5_1; exact ⟨a, c, by rw [e1]; rfl, hX, by rw [e2]; exact mp, by rw [e2]; exact hR, by rw [e2]; exact hc, hna⟩))
    · first
      | (exfalso; omega)
      |  (skip
          refine xl_nil ?_
          refine xthen_normal ?_
          refine xc_cond_t rfl ?_
          refine xc_seq ?_
          refine xc_region ?_
          refine xl_pure rfl rfl rfl (pv_move (v := .int _ _) rfl rfl) ?_
          refine xl_pure rfl rfl rfl (pv_assign (v := .int _ _) rfl rfl) ?_
          refine xl_nil ?_
          refine xthen_normal ?_
          refine xc_ret ?_
          refine xthen_ret ?_
          refine fin_ret (res1 (v := .int _ _) rfl rfl) ?_
          obtain ⟨e1, e2⟩ := ch_no (E := freeEL p q) (F := freeL p q) hh
          exact ⟨a, c, by rw [e1], hX, by rw [e2]; exact mp, by rw [e2]; exact hR, by rw [e2]; exact hc, hna⟩)

theorem c25g {O : Outer} {H : Heap} {bp c : Nat} {a : Option Addr} {l : List (List Int)} {g : Int} (mp : Blk H bp [.slice a (l).length c, .int .i64 g] 29) (hR : RowsT H 75 13 a l) (hc : l.length ≤ c) (hna : a = none → c = 0) (hl : l.length < 1000000) (hg : Goo l) (o p q : Int) {b1 b2 : Nat} (m1 : Blk H b1 [.int .i64 p] 3) (m2 : Blk H b2 [.int .i64 q] 3) :
    FnC Try.prog 25 #[.pointer (some ⟨bp, 0, none⟩), .int .i64 o, .func (.func 28) #[] #[.pointer (some ⟨b1, 0, none⟩), .pointer (some ⟨b2, 0, none⟩)]] O H (fun v H' => ∃ a' c', v = .int .i64 (chE (giveEL p q) l o) ∧ But bp H H' ∧ Blk H' bp [.slice a' (chL (giveEL p q) (giveL p q) l o).length c', .int .i64 g] 29 ∧ RowsT H' 75 13 a' (chL (giveEL p q) (giveL p q) l o) ∧ (chL (giveEL p q) (giveL p q) l o).length ≤ c' ∧ (a' = none → c' = 0)) := by
  refine fn_enter (A := [.pointer (some ⟨bp, 0, none⟩), .int .i64 o, .func (.func 28) #[] #[.pointer (some ⟨b1, 0, none⟩), .pointer (some ⟨b2, 0, none⟩)]]) Try.func25 rfl rfl ?_
  have hX := But.refl bp H
  refine xc_seq ?_
  refine xc_region ?_
  refine xl_pure rfl rfl rfl (pv_assign (v := .int _ _) rfl rfl) ?_
  refine xl_nil ?_
  refine xthen_normal ?_
  refine xc_seq ?_
  refine xc_region ?_
  refine xl_pure rfl rfl rfl (pv_move (v := .pointer _) rfl rfl) ?_
  refine xl_pure rfl rfl rfl (pv_move (v := .int _ _) rfl rfl) ?_
  refine xl_heavy rfl rfl rfl (hv_call (g := 8) rfl rfl (c8 mp hR hc hna hl hg o) rfl) ?_
  rintro v1_2 H1_2 ⟨hv1_2, hE1_2⟩
  have mp := mp.ext hE1_2
  have hR := hR.ext hE1_2
  have m1 := m1.ext hE1_2
  have m2 := m2.ext hE1_2
  have hX := hX.transE hE1_2
  rcases hv1_2 with ⟨hh, hv1_2⟩ | ⟨hh, rfl⟩
  · skip
    obtain ⟨d0, d1, d2, d3, d4, d5, d6, d7, d8, hd, hi⟩ := hg.at hh
    rw [hd] at hv1_2
    subst hv1_2
    refine xl_pure rfl rfl rfl (pv_move (v := .tuple _) rfl rfl) ?_
    refine xl_pure rfl rfl rfl (pv_extract (v := .agg _) rfl rfl rfl) ?_
    refine xl_pure rfl rfl rfl (pv_extract (v := .int _ _) rfl rfl rfl) ?_
    refine xl_heavy rfl rfl rfl (hv_alloc rfl rfl) ?_
    rintro v1_6 H1_6 ⟨b1_6, rfl, hN1_6⟩
    have gb1_6 := hX.fresh hN1_6
    have nmp_1_6 := mp.apart hN1_6
    have nm1_1_6 := m1.apart hN1_6
    have nm2_1_6 := m2.apart hN1_6
    have mp := mp.ext hN1_6.ext
    have hR := hR.ext hN1_6.ext
    have m1 := m1.ext hN1_6.ext
    have m2 := m2.ext hN1_6.ext
    have hX := hX.transE hN1_6.ext
    have m1_6 := hN1_6.blk
    refine xl_store rfl rfl (hv_storeA (vs := [.int _ _, .int _ _, .int _ _, .int _ _, .int _ _, .int _ _, .int _ _, .int _ _, .int _ _]) rfl rfl rfl (m1_6) rfl (by rfl) rfl) ?_
    rintro v1_7 H1_7 ⟨hU1_7, hZ1_7⟩
    have mp := mp.off hU1_7.but (by first | exact nmp_1_6 | exact ⟨mp.ne m1_6 rfl⟩ | exact ⟨mp.ne m1_6 (by assumption)⟩ | exact ⟨Ne.symm (m1_6.ne mp (by assumption))⟩)
    have hR := hR.offT m1_6 hU1_7.but (by first | rfl | assumption)
    have m1 := m1.off hU1_7.but (by first | exact nm1_1_6 | exact ⟨m1.ne m1_6 rfl⟩ | exact ⟨m1.ne m1_6 (by assumption)⟩ | exact ⟨Ne.symm (m1_6.ne m1 (by assumption))⟩)
    have m2 := m2.off hU1_7.but (by first | exact nm2_1_6 | exact ⟨m2.ne m1_6 rfl⟩ | exact ⟨m2.ne m1_6 (by assumption)⟩ | exact ⟨Ne.symm (m1_6.ne m2 (by assumption))⟩)
    have hX := hX.upd hU1_7.but gb1_6
    have m1_6 := hU1_7.blk
    refine xl_pure rfl rfl rfl (pv_assign (v := .int _ _) rfl rfl) ?_
    refine xl_nil ?_
    refine xthen_normal ?_
    refine xc_seq ?_
    refine xc_seq ?_
    refine xc_region ?_
    refine xl_pure rfl rfl rfl (pv_move (v := .int _ _) rfl rfl) ?_
    refine xl_ndec rfl rfl rfl (pv_neq rfl rfl rfl) (fun h2_1 => ?_) (fun h2_1 => ?_)
    · first
      | (exfalso; omega)
      |  (skip
          refine xl_nil ?_
          refine xthen_normal ?_
          refine xc_cond_f rfl ?_
          refine xc_skip ?_
          refine xthen_normal ?_
          refine xc_seq ?_
          refine xc_region ?_
          refine xl_pure rfl rfl rfl (pv_move rfl rfl) ?_
          refine xl_heavy rfl rfl rfl (hv_call (g := 28) rfl rfl (c28 d0 d1 d2 d3 d4 d5 d6 d7 d8 p q hi m1_6 m1 m2) rfl) ?_
          rintro v4_1 H4_1 ⟨rfl, hB4_1, hT4_1⟩
          have mp := mp.off hB4_1 (by first | exact nmp_1_6 | exact ⟨mp.ne m1_6 rfl⟩ | exact ⟨mp.ne m1_6 (by assumption)⟩ | exact ⟨Ne.symm (m1_6.ne mp (by assumption))⟩)
          have hR := hR.offT m1_6 hB4_1 (by first | rfl | assumption)
          have m1 := m1.off hB4_1 (by first | exact nm1_1_6 | exact ⟨m1.ne m1_6 rfl⟩ | exact ⟨m1.ne m1_6 (by assumption)⟩ | exact ⟨Ne.symm (m1_6.ne m1 (by assumption))⟩)
          have m2 := m2.off hB4_1 (by first | exact nm2_1_6 | exact ⟨m2.ne m1_6 rfl⟩ | exact ⟨m2.ne m1_6 (by assumption)⟩ | exact ⟨Ne.symm (m1_6.ne m2 (by assumption))⟩)
          have hX := hX.upd hB4_1 gb1_6
          have m1_6 := hT4_1
          refine xl_pure rfl rfl rfl (pv_assign (v := .int _ _) rfl rfl) ?_
          refine xl_nil ?_
          refine xthen_normal ?_
          refine xc_seq ?_
          refine xc_seq ?_
          refine xc_region ?_
          refine xl_pure rfl rfl rfl (pv_move (v := .int _ _) rfl rfl) ?_
          refine xl_dec rfl rfl rfl (pv_eql rfl rfl rfl) (fun h5_1 => ?_) (fun h5_1 => ?_)
          · skip
            refine xl_nil ?_
            refine xthen_normal ?_
            refine xc_cond_t rfl ?_
            refine xp_start rfl (by repeat (first | with_reducible exact np_fin | with_reducible refine np_then ?_ | with_reducible refine np_block ?_)) (by kernel_rfl) ?_
            refine xp_pure (i := 0) rfl (by kernel_rfl) (by kernel_rfl) rfl rfl rfl (pv_move (v := .pointer _) rfl rfl) ?_
            refine xp_pure (i := 1) rfl (by kernel_rfl) (by kernel_rfl) rfl rfl rfl (pv_nilCheck_p rfl rfl) ?_
            refine xp_pure (i := 2) rfl (by kernel_rfl) (by kernel_rfl) rfl rfl rfl (pv_fieldAddr rfl rfl) ?_
            refine xp_pure (i := 3) rfl (by kernel_rfl) (by kernel_rfl) rfl rfl rfl (pv_move (v := .int _ _) rfl rfl) ?_
            refine xp_light (i := 5) rfl (by kernel_rfl) (by kernel_rfl) rfl rfl rfl (lv_load (v := .agg _) rfl rfl (ld_blk_a m1_6 rfl rfl)) ?_
            refine xp_heavy (i := 4) (by kernel_rfl) ?_
            refine xph_val rfl rfl rfl rfl (hv_call (g := 21) rfl rfl (c21 o) rfl) (pk (by kernel_rfl) pn) ?_
            rintro v6_4 H6_4 ⟨rfl, hE6_4⟩
            have mp := mp.ext hE6_4
            have hR := hR.ext hE6_4
            have m1 := m1.ext hE6_4
            have m2 := m2.ext hE6_4
            have m1_6 := m1_6.ext hE6_4
            have hX := hX.transE hE6_4
            refine ⟨(okc (lv_load (v := .agg _) rfl rfl (ld_blk_a m1_6 rfl rfl)) okn), ?_⟩
            refine xp_heavy (i := 6) (by kernel_rfl) ?_
            refine xph_val rfl rfl rfl rfl (hv_call (g := 20) rfl rfl (c20 mp hR rfl hg.srt hc hna (by omega) [o, 0, 0, 0] rfl [d0, giveO d1 d8 p q, giveV d2 d8 p q, d3, d4, d5, d6, d7, d8] rfl) rfl) (pd (by kernel_rfl) pn) ?_
            rintro v6_6 H6_6 ⟨a6_6, c6_6, hv6_6, hU6_6, hR6_6, hc6_6, hna6_6⟩
            have hR := hR.offT mp hU6_6.but (by first | rfl | assumption)
            have m1 := m1.off hU6_6.but (by first | exact nmp_1.symm | exact ⟨m1.ne mp rfl⟩ | exact ⟨m1.ne mp (by assumption)⟩ | exact ⟨Ne.symm (mp.ne m1 (by assumption))⟩)
            have m2 := m2.off hU6_6.but (by first | exact nmp_2.symm | exact ⟨m2.ne mp rfl⟩ | exact ⟨m2.ne mp (by assumption)⟩ | exact ⟨Ne.symm (mp.ne m2 (by assumption))⟩)
            have m1_6 := m1_6.off hU6_6.but (by first | exact nmp_1_6.symm | exact ⟨m1_6.ne mp rfl⟩ | exact ⟨m1_6.ne mp (by assumption)⟩ | exact ⟨Ne.symm (mp.ne m1_6 (by assumption))⟩)
            have hX := hX.trans hU6_6.but
            have mp := hU6_6.blk
            refine ⟨okn, ?_⟩
            refine xp_done (by kernel_rfl) ?_
            refine xthen_normal ?_
            refine xc_seq ?_
            refine xc_region ?_
            refine xl_pure rfl rfl rfl (pv_move (v := .int _ _) rfl rfl) ?_
            refine xl_pure rfl rfl rfl (pv_assign (v := .int _ _) rfl rfl) ?_
            refine xl_nil ?_
            refine xthen_normal ?_
            refine xc_ret ?_
            refine fin_ret (res1 (v := .int _ _) rfl rfl) ?_
            first
              | (obtain ⟨e1, e2⟩ := ch_ok (E := giveEL p q) (F := giveL p q) hh hd h5_1; exact ⟨_, _, by rw [e1, h5_1], hX, by rw [e2]; exact mp, by rw [e2]; exact hR6_6, by rw [e2]; exact hc6_6, hna6_6⟩)
              | (obtain ⟨e1, e2⟩ := ch_bad (E := giveEL p q) (F := giveL p q) hh hd h5_1; exact ⟨a, c, by rw [e1]; rfl, hX, by rw [e2]; exact mp, by rw [e2]; exact hR, by rw [e2]; exact hc, hna⟩)
          · skip
            refine xl_nil ?_
            refine xthen_normal ?_
            refine xc_cond_f rfl ?_
            refine xc_skip ?_
            refine xthen_normal ?_
            refine xc_seq ?_
            refine xc_region ?_
            refine xl_pure rfl rfl rfl (pv_move (v := .int _ _) rfl rfl) ?_
            refine xl_pure rfl rfl rfl (pv_assign (v := .int _ _) rfl rfl) ?_
            refine xl_nil ?_
            refine xthen_normal ?_
            refine xc_ret ?_
            refine fin_ret (res1 (v := .int _ _) rfl rfl) ?_
            first
              | (obtain ⟨e1, e2⟩ := ch_ok (E := giveEL p q) (F := giveL p q) hh hd h5_1; exact ⟨_, _, by rw [e1, h5_1], hX, by rw [e2]; exact mp, by rw [e2]; exact hR6_6, by rw [e2]; exact hc6_6, hna6_6⟩)
              | (obtain ⟨e1, e2⟩ := ch_bad (E := giveEL p q) (F := giveL p q) hh hd h5_1; exact ⟨a, c, by rw [e1]; rfl, hX, by rw [e2]; exact mp, by rw [e2]; exact hR, by rw [e2]; exact hc, hna⟩))
    · first
      | (exfalso; omega)
      |  (skip
          refine xl_nil ?_
          refine xthen_normal ?_
          refine xc_cond_t rfl ?_
          refine xc_seq ?_
          refine xc_region ?_
          refine xl_pure rfl rfl rfl (pv_move (v := .int _ _) rfl rfl) ?_
          refine xl_pure rfl rfl rfl (pv_assign (v := .int _ _) rfl rfl) ?_
          refine xl_nil ?_
          refine xthen_normal ?_
          refine xc_ret ?_
          refine xthen_ret ?_
          refine fin_ret (res1 (v := .int _ _) rfl rfl) ?_
          obtain ⟨e1, e2⟩ := ch_no (E := giveEL p q) (F := giveL p q) hh
          exact ⟨a, c, by rw [e1], hX, by rw [e2]; exact mp, by rw [e2]; exact hR, by rw [e2]; exact hc, hna⟩)
  · skip
    refine xl_pure rfl rfl rfl (pv_move (v := .tuple _) rfl rfl) ?_
    refine xl_pure rfl rfl rfl (pv_extract (v := .agg _) rfl rfl rfl) ?_
    refine xl_pure rfl rfl rfl (pv_extract (v := .int _ _) rfl rfl rfl) ?_
    refine xl_heavy rfl rfl rfl (hv_alloc rfl rfl) ?_
    rintro v1_6 H1_6 ⟨b1_6, rfl, hN1_6⟩
    have gb1_6 := hX.fresh hN1_6
    have nmp_1_6 := mp.apart hN1_6
    have nm1_1_6 := m1.apart hN1_6
    have nm2_1_6 := m2.apart hN1_6
    have mp := mp.ext hN1_6.ext
    have hR := hR.ext hN1_6.ext
    have m1 := m1.ext hN1_6.ext
    have m2 := m2.ext hN1_6.ext
    have hX := hX.transE hN1_6.ext
    have m1_6 := hN1_6.blk
    refine xl_store rfl rfl (hv_storeA (vs := [.int _ _, .int _ _, .int _ _, .int _ _, .int _ _, .int _ _, .int _ _, .int _ _, .int _ _]) rfl rfl rfl (m1_6) rfl (by rfl) rfl) ?_
    rintro v1_7 H1_7 ⟨hU1_7, hZ1_7⟩
    have mp := mp.off hU1_7.but (by first | exact nmp_1_6 | exact ⟨mp.ne m1_6 rfl⟩ | exact ⟨mp.ne m1_6 (by assumption)⟩ | exact ⟨Ne.symm (m1_6.ne mp (by assumption))⟩)
    have hR := hR.offT m1_6 hU1_7.but (by first | rfl | assumption)
    have m1 := m1.off hU1_7.but (by first | exact nm1_1_6 | exact ⟨m1.ne m1_6 rfl⟩ | exact ⟨m1.ne m1_6 (by assumption)⟩ | exact ⟨Ne.symm (m1_6.ne m1 (by assumption))⟩)
    have m2 := m2.off hU1_7.but (by first | exact nm2_1_6 | exact ⟨m2.ne m1_6 rfl⟩ | exact ⟨m2.ne m1_6 (by assumption)⟩ | exact ⟨Ne.symm (m1_6.ne m2 (by assumption))⟩)
    have hX := hX.upd hU1_7.but gb1_6
    have m1_6 := hU1_7.blk
    refine xl_pure rfl rfl rfl (pv_assign (v := .int _ _) rfl rfl) ?_
    refine xl_nil ?_
    refine xthen_normal ?_
    refine xc_seq ?_
    refine xc_seq ?_
    refine xc_region ?_
    refine xl_pure rfl rfl rfl (pv_move (v := .int _ _) rfl rfl) ?_
    refine xl_ndec rfl rfl rfl (pv_neq rfl rfl rfl) (fun h2_1 => ?_) (fun h2_1 => ?_)
    · first
      | (exfalso; omega)
      |  (skip
          refine xl_nil ?_
          refine xthen_normal ?_
          refine xc_cond_f rfl ?_
          refine xc_skip ?_
          refine xthen_normal ?_
          refine xc_seq ?_
          refine xc_region ?_
          refine xl_pure rfl rfl rfl (pv_move rfl rfl) ?_
          refine xl_heavy rfl rfl rfl (hv_call (g := 28) rfl rfl (c28 d0 d1 d2 d3 d4 d5 d6 d7 d8 p q hi m1_6 m1 m2) rfl) ?_
          rintro v4_1 H4_1 ⟨rfl, hB4_1, hT4_1⟩
          have mp := mp.off hB4_1 (by first | exact nmp_1_6 | exact ⟨mp.ne m1_6 rfl⟩ | exact ⟨mp.ne m1_6 (by assumption)⟩ | exact ⟨Ne.symm (m1_6.ne mp (by assumption))⟩)
          have hR := hR.offT m1_6 hB4_1 (by first | rfl | assumption)
          have m1 := m1.off hB4_1 (by first | exact nm1_1_6 | exact ⟨m1.ne m1_6 rfl⟩ | exact ⟨m1.ne m1_6 (by assumption)⟩ | exact ⟨Ne.symm (m1_6.ne m1 (by assumption))⟩)
          have m2 := m2.off hB4_1 (by first | exact nm2_1_6 | exact ⟨m2.ne m1_6 rfl⟩ | exact ⟨m2.ne m1_6 (by assumption)⟩ | exact ⟨Ne.symm (m1_6.ne m2 (by assumption))⟩)
          have hX := hX.upd hB4_1 gb1_6
          have m1_6 := hT4_1
          refine xl_pure rfl rfl rfl (pv_assign (v := .int _ _) rfl rfl) ?_
          refine xl_nil ?_
          refine xthen_normal ?_
          refine xc_seq ?_
          refine xc_seq ?_
          refine xc_region ?_
          refine xl_pure rfl rfl rfl (pv_move (v := .int _ _) rfl rfl) ?_
          refine xl_dec rfl rfl rfl (pv_eql rfl rfl rfl) (fun h5_1 => ?_) (fun h5_1 => ?_)
          · skip
            refine xl_nil ?_
            refine xthen_normal ?_
            refine xc_cond_t rfl ?_
            refine xp_start rfl (by repeat (first | with_reducible exact np_fin | with_reducible refine np_then ?_ | with_reducible refine np_block ?_)) (by kernel_rfl) ?_
            refine xp_pure (i := 0) rfl (by kernel_rfl) (by kernel_rfl) rfl rfl rfl (pv_move (v := .pointer _) rfl rfl) ?_
            refine xp_pure (i := 1) rfl (by kernel_rfl) (by kernel_rfl) rfl rfl rfl (pv_nilCheck_p rfl rfl) ?_
            refine xp_pure (i := 2) rfl (by kernel_rfl) (by kernel_rfl) rfl rfl rfl (pv_fieldAddr rfl rfl) ?_
            refine xp_pure (i := 3) rfl (by kernel_rfl) (by kernel_rfl) rfl rfl rfl (pv_move (v := .int _ _) rfl rfl) ?_
            refine xp_light (i := 5) rfl (by kernel_rfl) (by kernel_rfl) rfl rfl rfl (lv_load (v := .agg _) rfl rfl (ld_blk_a m1_6 rfl rfl)) ?_
            refine xp_heavy (i := 4) (by kernel_rfl) ?_
            refine xph_val rfl rfl rfl rfl (hv_call (g := 21) rfl rfl (c21 o) rfl) (pk (by kernel_rfl) pn) ?_
            rintro v6_4 H6_4 ⟨rfl, hE6_4⟩
            have mp := mp.ext hE6_4
            have hR := hR.ext hE6_4
            have m1 := m1.ext hE6_4
            have m2 := m2.ext hE6_4
            have m1_6 := m1_6.ext hE6_4
            have hX := hX.transE hE6_4
            refine ⟨(okc (lv_load (v := .agg _) rfl rfl (ld_blk_a m1_6 rfl rfl)) okn), ?_⟩
            refine xp_heavy (i := 6) (by kernel_rfl) ?_
            refine xph_val rfl rfl rfl rfl (hv_call (g := 20) rfl rfl (c20 mp hR rfl hg.srt hc hna (by omega) [o, 0, 0, 0] rfl [d0, giveO d1 d8 p q, giveV d2 d8 p q, d3, d4, d5, d6, d7, d8] rfl) rfl) (pd (by kernel_rfl) pn) ?_
            rintro v6_6 H6_6 ⟨a6_6, c6_6, hv6_6, hU6_6, hR6_6, hc6_6, hna6_6⟩
            have hR := hR.offT mp hU6_6.but (by first | rfl | assumption)
            have m1 := m1.off hU6_6.but (by first | exact nmp_1.symm | exact ⟨m1.ne mp rfl⟩ | exact ⟨m1.ne mp (by assumption)⟩ | exact ⟨Ne.symm (mp.ne m1 (by assumption))⟩)
            have m2 := m2.off hU6_6.but (by first | exact nmp_2.symm | exact ⟨m2.ne mp rfl⟩ | exact ⟨m2.ne mp (by assumption)⟩ | exact ⟨Ne.symm (mp.ne m2 (by assumption))⟩)
            have m1_6 := m1_6.off hU6_6.but (by first | exact nmp_1_6.symm | exact ⟨m1_6.ne mp rfl⟩ | exact ⟨m1_6.ne mp (by assumption)⟩ | exact ⟨Ne.symm (mp.ne m1_6 (by assumption))⟩)
            have hX := hX.trans hU6_6.but
            have mp := hU6_6.blk
            refine ⟨okn, ?_⟩
            refine xp_done (by kernel_rfl) ?_
            refine xthen_normal ?_
            refine xc_seq ?_
            refine xc_region ?_
            refine xl_pure rfl rfl rfl (pv_move (v := .int _ _) rfl rfl) ?_
            refine xl_pure rfl rfl rfl (pv_assign (v := .int _ _) rfl rfl) ?_
            refine xl_nil ?_
            refine xthen_normal ?_
            refine xc_ret ?_
            refine fin_ret (res1 (v := .int _ _) rfl rfl) ?_
            first
              | (obtain ⟨e1, e2⟩ := ch_ok (E := giveEL p q) (F := giveL p q) hh hd h5_1; exact ⟨_, _, by rw [e1, h5_1], hX, by rw [e2]; exact mp, by rw [e2]; exact hR6_6, by rw [e2]; exact hc6_6, hna6_6⟩)
              | (obtain ⟨e1, e2⟩ := ch_bad (E := giveEL p q) (F := giveL p q) hh hd h5_1; exact ⟨a, c, by rw [e1]; rfl, hX, by rw [e2]; exact mp, by rw [e2]; exact hR, by rw [e2]; exact hc, hna⟩)
          · skip
            refine xl_nil ?_
            refine xthen_normal ?_
            refine xc_cond_f rfl ?_
            refine xc_skip ?_
            refine xthen_normal ?_
            refine xc_seq ?_
            refine xc_region ?_
            refine xl_pure rfl rfl rfl (pv_move (v := .int _ _) rfl rfl) ?_
            refine xl_pure rfl rfl rfl (pv_assign (v := .int _ _) rfl rfl) ?_
            refine xl_nil ?_
            refine xthen_normal ?_
            refine xc_ret ?_
            refine fin_ret (res1 (v := .int _ _) rfl rfl) ?_
            first
              | (obtain ⟨e1, e2⟩ := ch_ok (E := giveEL p q) (F := giveL p q) hh hd h5_1; exact ⟨_, _, by rw [e1, h5_1], hX, by rw [e2]; exact mp, by rw [e2]; exact hR6_6, by rw [e2]; exact hc6_6, hna6_6⟩)
              | (obtain ⟨e1, e2⟩ := ch_bad (E := giveEL p q) (F := giveL p q) hh hd h5_1; exact ⟨a, c, by rw [e1]; rfl, hX, by rw [e2]; exact mp, by rw [e2]; exact hR, by rw [e2]; exact hc, hna⟩))
    · first
      | (exfalso; omega)
      |  (skip
          refine xl_nil ?_
          refine xthen_normal ?_
          refine xc_cond_t rfl ?_
          refine xc_seq ?_
          refine xc_region ?_
          refine xl_pure rfl rfl rfl (pv_move (v := .int _ _) rfl rfl) ?_
          refine xl_pure rfl rfl rfl (pv_assign (v := .int _ _) rfl rfl) ?_
          refine xl_nil ?_
          refine xthen_normal ?_
          refine xc_ret ?_
          refine xthen_ret ?_
          refine fin_ret (res1 (v := .int _ _) rfl rfl) ?_
          obtain ⟨e1, e2⟩ := ch_no (E := giveEL p q) (F := giveL p q) hh
          exact ⟨a, c, by rw [e1], hX, by rw [e2]; exact mp, by rw [e2]; exact hR, by rw [e2]; exact hc, hna⟩)

theorem c25l {O : Outer} {H : Heap} {bp c : Nat} {a : Option Addr} {l : List (List Int)} {g : Int} (mp : Blk H bp [.slice a (l).length c, .int .i64 g] 29) (hR : RowsT H 75 13 a l) (hc : l.length ≤ c) (hna : a = none → c = 0) (hl : l.length < 1000000) (hg : Goo l) (o p q : Int) {b1 b2 : Nat} (m1 : Blk H b1 [.int .i64 p] 3) (m2 : Blk H b2 [.int .i64 q] 3) :
    FnC Try.prog 25 #[.pointer (some ⟨bp, 0, none⟩), .int .i64 o, .func (.func 35) #[] #[.pointer (some ⟨b1, 0, none⟩), .pointer (some ⟨b2, 0, none⟩)]] O H (fun v H' => ∃ a' c', v = .int .i64 (chE (learnEL p q) l o) ∧ But bp H H' ∧ Blk H' bp [.slice a' (chL (learnEL p q) (learnL p q) l o).length c', .int .i64 g] 29 ∧ RowsT H' 75 13 a' (chL (learnEL p q) (learnL p q) l o) ∧ (chL (learnEL p q) (learnL p q) l o).length ≤ c' ∧ (a' = none → c' = 0)) := by
  refine fn_enter (A := [.pointer (some ⟨bp, 0, none⟩), .int .i64 o, .func (.func 35) #[] #[.pointer (some ⟨b1, 0, none⟩), .pointer (some ⟨b2, 0, none⟩)]]) Try.func25 rfl rfl ?_
  have hX := But.refl bp H
  refine xc_seq ?_
  refine xc_region ?_
  refine xl_pure rfl rfl rfl (pv_assign (v := .int _ _) rfl rfl) ?_
  refine xl_nil ?_
  refine xthen_normal ?_
  refine xc_seq ?_
  refine xc_region ?_
  refine xl_pure rfl rfl rfl (pv_move (v := .pointer _) rfl rfl) ?_
  refine xl_pure rfl rfl rfl (pv_move (v := .int _ _) rfl rfl) ?_
  refine xl_heavy rfl rfl rfl (hv_call (g := 8) rfl rfl (c8 mp hR hc hna hl hg o) rfl) ?_
  rintro v1_2 H1_2 ⟨hv1_2, hE1_2⟩
  have mp := mp.ext hE1_2
  have hR := hR.ext hE1_2
  have m1 := m1.ext hE1_2
  have m2 := m2.ext hE1_2
  have hX := hX.transE hE1_2
  rcases hv1_2 with ⟨hh, hv1_2⟩ | ⟨hh, rfl⟩
  · skip
    obtain ⟨d0, d1, d2, d3, d4, d5, d6, d7, d8, hd, hi⟩ := hg.at hh
    rw [hd] at hv1_2
    subst hv1_2
    refine xl_pure rfl rfl rfl (pv_move (v := .tuple _) rfl rfl) ?_
    refine xl_pure rfl rfl rfl (pv_extract (v := .agg _) rfl rfl rfl) ?_
    refine xl_pure rfl rfl rfl (pv_extract (v := .int _ _) rfl rfl rfl) ?_
    refine xl_heavy rfl rfl rfl (hv_alloc rfl rfl) ?_
    rintro v1_6 H1_6 ⟨b1_6, rfl, hN1_6⟩
    have gb1_6 := hX.fresh hN1_6
    have nmp_1_6 := mp.apart hN1_6
    have nm1_1_6 := m1.apart hN1_6
    have nm2_1_6 := m2.apart hN1_6
    have mp := mp.ext hN1_6.ext
    have hR := hR.ext hN1_6.ext
    have m1 := m1.ext hN1_6.ext
    have m2 := m2.ext hN1_6.ext
    have hX := hX.transE hN1_6.ext
    have m1_6 := hN1_6.blk
    refine xl_store rfl rfl (hv_storeA (vs := [.int _ _, .int _ _, .int _ _, .int _ _, .int _ _, .int _ _, .int _ _, .int _ _, .int _ _]) rfl rfl rfl (m1_6) rfl (by rfl) rfl) ?_
    rintro v1_7 H1_7 ⟨hU1_7, hZ1_7⟩
    have mp := mp.off hU1_7.but (by first | exact nmp_1_6 | exact ⟨mp.ne m1_6 rfl⟩ | exact ⟨mp.ne m1_6 (by assumption)⟩ | exact ⟨Ne.symm (m1_6.ne mp (by assumption))⟩)
    have hR := hR.offT m1_6 hU1_7.but (by first | rfl | assumption)
    have m1 := m1.off hU1_7.but (by first | exact nm1_1_6 | exact ⟨m1.ne m1_6 rfl⟩ | exact ⟨m1.ne m1_6 (by assumption)⟩ | exact ⟨Ne.symm (m1_6.ne m1 (by assumption))⟩)
    have m2 := m2.off hU1_7.but (by first | exact nm2_1_6 | exact ⟨m2.ne m1_6 rfl⟩ | exact ⟨m2.ne m1_6 (by assumption)⟩ | exact ⟨Ne.symm (m1_6.ne m2 (by assumption))⟩)
    have hX := hX.upd hU1_7.but gb1_6
    have m1_6 := hU1_7.blk
    refine xl_pure rfl rfl rfl (pv_assign (v := .int _ _) rfl rfl) ?_
    refine xl_nil ?_
    refine xthen_normal ?_
    refine xc_seq ?_
    refine xc_seq ?_
    refine xc_region ?_
    refine xl_pure rfl rfl rfl (pv_move (v := .int _ _) rfl rfl) ?_
    refine xl_ndec rfl rfl rfl (pv_neq rfl rfl rfl) (fun h2_1 => ?_) (fun h2_1 => ?_)
    · first
      | (exfalso; omega)
      |  (skip
          refine xl_nil ?_
          refine xthen_normal ?_
          refine xc_cond_f rfl ?_
          refine xc_skip ?_
          refine xthen_normal ?_
          refine xc_seq ?_
          refine xc_region ?_
          refine xl_pure rfl rfl rfl (pv_move rfl rfl) ?_
          refine xl_heavy rfl rfl rfl (hv_call (g := 35) rfl rfl (c35 d0 d1 d2 d3 d4 d5 d6 d7 d8 p q hi m1_6 m1 m2) rfl) ?_
          rintro v4_1 H4_1 ⟨rfl, hB4_1, hT4_1⟩
          have mp := mp.off hB4_1 (by first | exact nmp_1_6 | exact ⟨mp.ne m1_6 rfl⟩ | exact ⟨mp.ne m1_6 (by assumption)⟩ | exact ⟨Ne.symm (m1_6.ne mp (by assumption))⟩)
          have hR := hR.offT m1_6 hB4_1 (by first | rfl | assumption)
          have m1 := m1.off hB4_1 (by first | exact nm1_1_6 | exact ⟨m1.ne m1_6 rfl⟩ | exact ⟨m1.ne m1_6 (by assumption)⟩ | exact ⟨Ne.symm (m1_6.ne m1 (by assumption))⟩)
          have m2 := m2.off hB4_1 (by first | exact nm2_1_6 | exact ⟨m2.ne m1_6 rfl⟩ | exact ⟨m2.ne m1_6 (by assumption)⟩ | exact ⟨Ne.symm (m1_6.ne m2 (by assumption))⟩)
          have hX := hX.upd hB4_1 gb1_6
          have m1_6 := hT4_1
          refine xl_pure rfl rfl rfl (pv_assign (v := .int _ _) rfl rfl) ?_
          refine xl_nil ?_
          refine xthen_normal ?_
          refine xc_seq ?_
          refine xc_seq ?_
          refine xc_region ?_
          refine xl_pure rfl rfl rfl (pv_move (v := .int _ _) rfl rfl) ?_
          refine xl_dec rfl rfl rfl (pv_eql rfl rfl rfl) (fun h5_1 => ?_) (fun h5_1 => ?_)
          · skip
            refine xl_nil ?_
            refine xthen_normal ?_
            refine xc_cond_t rfl ?_
            refine xp_start rfl (by repeat (first | with_reducible exact np_fin | with_reducible refine np_then ?_ | with_reducible refine np_block ?_)) (by kernel_rfl) ?_
            refine xp_pure (i := 0) rfl (by kernel_rfl) (by kernel_rfl) rfl rfl rfl (pv_move (v := .pointer _) rfl rfl) ?_
            refine xp_pure (i := 1) rfl (by kernel_rfl) (by kernel_rfl) rfl rfl rfl (pv_nilCheck_p rfl rfl) ?_
            refine xp_pure (i := 2) rfl (by kernel_rfl) (by kernel_rfl) rfl rfl rfl (pv_fieldAddr rfl rfl) ?_
            refine xp_pure (i := 3) rfl (by kernel_rfl) (by kernel_rfl) rfl rfl rfl (pv_move (v := .int _ _) rfl rfl) ?_
            refine xp_light (i := 5) rfl (by kernel_rfl) (by kernel_rfl) rfl rfl rfl (lv_load (v := .agg _) rfl rfl (ld_blk_a m1_6 rfl rfl)) ?_
            refine xp_heavy (i := 4) (by kernel_rfl) ?_
            refine xph_val rfl rfl rfl rfl (hv_call (g := 21) rfl rfl (c21 o) rfl) (pk (by kernel_rfl) pn) ?_
            rintro v6_4 H6_4 ⟨rfl, hE6_4⟩
            have mp := mp.ext hE6_4
            have hR := hR.ext hE6_4
            have m1 := m1.ext hE6_4
            have m2 := m2.ext hE6_4
            have m1_6 := m1_6.ext hE6_4
            have hX := hX.transE hE6_4
            refine ⟨(okc (lv_load (v := .agg _) rfl rfl (ld_blk_a m1_6 rfl rfl)) okn), ?_⟩
            refine xp_heavy (i := 6) (by kernel_rfl) ?_
            refine xph_val rfl rfl rfl rfl (hv_call (g := 20) rfl rfl (c20 mp hR rfl hg.srt hc hna (by omega) [o, 0, 0, 0] rfl [d0, d1, d2, d3, d4, learnM d5 d6 p q, learnT d5 d6 p q, d7, d8] rfl) rfl) (pd (by kernel_rfl) pn) ?_
            rintro v6_6 H6_6 ⟨a6_6, c6_6, hv6_6, hU6_6, hR6_6, hc6_6, hna6_6⟩
            have hR := hR.offT mp hU6_6.but (by first | rfl | assumption)
            have m1 := m1.off hU6_6.but (by first | exact nmp_1.symm | exact ⟨m1.ne mp rfl⟩ | exact ⟨m1.ne mp (by assumption)⟩ | exact ⟨Ne.symm (mp.ne m1 (by assumption))⟩)
            have m2 := m2.off hU6_6.but (by first | exact nmp_2.symm | exact ⟨m2.ne mp rfl⟩ | exact ⟨m2.ne mp (by assumption)⟩ | exact ⟨Ne.symm (mp.ne m2 (by assumption))⟩)
            have m1_6 := m1_6.off hU6_6.but (by first | exact nmp_1_6.symm | exact ⟨m1_6.ne mp rfl⟩ | exact ⟨m1_6.ne mp (by assumption)⟩ | exact ⟨Ne.symm (mp.ne m1_6 (by assumption))⟩)
            have hX := hX.trans hU6_6.but
            have mp := hU6_6.blk
            refine ⟨okn, ?_⟩
            refine xp_done (by kernel_rfl) ?_
            refine xthen_normal ?_
            refine xc_seq ?_
            refine xc_region ?_
            refine xl_pure rfl rfl rfl (pv_move (v := .int _ _) rfl rfl) ?_
            refine xl_pure rfl rfl rfl (pv_assign (v := .int _ _) rfl rfl) ?_
            refine xl_nil ?_
            refine xthen_normal ?_
            refine xc_ret ?_
            refine fin_ret (res1 (v := .int _ _) rfl rfl) ?_
            first
              | (obtain ⟨e1, e2⟩ := ch_ok (E := learnEL p q) (F := learnL p q) hh hd h5_1; exact ⟨_, _, by rw [e1, h5_1], hX, by rw [e2]; exact mp, by rw [e2]; exact hR6_6, by rw [e2]; exact hc6_6, hna6_6⟩)
              | (obtain ⟨e1, e2⟩ := ch_bad (E := learnEL p q) (F := learnL p q) hh hd h5_1; exact ⟨a, c, by rw [e1]; rfl, hX, by rw [e2]; exact mp, by rw [e2]; exact hR, by rw [e2]; exact hc, hna⟩)
          · skip
            refine xl_nil ?_
            refine xthen_normal ?_
            refine xc_cond_f rfl ?_
            refine xc_skip ?_
            refine xthen_normal ?_
            refine xc_seq ?_
            refine xc_region ?_
            refine xl_pure rfl rfl rfl (pv_move (v := .int _ _) rfl rfl) ?_
            refine xl_pure rfl rfl rfl (pv_assign (v := .int _ _) rfl rfl) ?_
            refine xl_nil ?_
            refine xthen_normal ?_
            refine xc_ret ?_
            refine fin_ret (res1 (v := .int _ _) rfl rfl) ?_
            first
              | (obtain ⟨e1, e2⟩ := ch_ok (E := learnEL p q) (F := learnL p q) hh hd h5_1; exact ⟨_, _, by rw [e1, h5_1], hX, by rw [e2]; exact mp, by rw [e2]; exact hR6_6, by rw [e2]; exact hc6_6, hna6_6⟩)
              | (obtain ⟨e1, e2⟩ := ch_bad (E := learnEL p q) (F := learnL p q) hh hd h5_1; exact ⟨a, c, by rw [e1]; rfl, hX, by rw [e2]; exact mp, by rw [e2]; exact hR, by rw [e2]; exact hc, hna⟩))
    · first
      | (exfalso; omega)
      |  (skip
          refine xl_nil ?_
          refine xthen_normal ?_
          refine xc_cond_t rfl ?_
          refine xc_seq ?_
          refine xc_region ?_
          refine xl_pure rfl rfl rfl (pv_move (v := .int _ _) rfl rfl) ?_
          refine xl_pure rfl rfl rfl (pv_assign (v := .int _ _) rfl rfl) ?_
          refine xl_nil ?_
          refine xthen_normal ?_
          refine xc_ret ?_
          refine xthen_ret ?_
          refine fin_ret (res1 (v := .int _ _) rfl rfl) ?_
          obtain ⟨e1, e2⟩ := ch_no (E := learnEL p q) (F := learnL p q) hh
          exact ⟨a, c, by rw [e1], hX, by rw [e2]; exact mp, by rw [e2]; exact hR, by rw [e2]; exact hc, hna⟩)
  · skip
    refine xl_pure rfl rfl rfl (pv_move (v := .tuple _) rfl rfl) ?_
    refine xl_pure rfl rfl rfl (pv_extract (v := .agg _) rfl rfl rfl) ?_
    refine xl_pure rfl rfl rfl (pv_extract (v := .int _ _) rfl rfl rfl) ?_
    refine xl_heavy rfl rfl rfl (hv_alloc rfl rfl) ?_
    rintro v1_6 H1_6 ⟨b1_6, rfl, hN1_6⟩
    have gb1_6 := hX.fresh hN1_6
    have nmp_1_6 := mp.apart hN1_6
    have nm1_1_6 := m1.apart hN1_6
    have nm2_1_6 := m2.apart hN1_6
    have mp := mp.ext hN1_6.ext
    have hR := hR.ext hN1_6.ext
    have m1 := m1.ext hN1_6.ext
    have m2 := m2.ext hN1_6.ext
    have hX := hX.transE hN1_6.ext
    have m1_6 := hN1_6.blk
    refine xl_store rfl rfl (hv_storeA (vs := [.int _ _, .int _ _, .int _ _, .int _ _, .int _ _, .int _ _, .int _ _, .int _ _, .int _ _]) rfl rfl rfl (m1_6) rfl (by rfl) rfl) ?_
    rintro v1_7 H1_7 ⟨hU1_7, hZ1_7⟩
    have mp := mp.off hU1_7.but (by first | exact nmp_1_6 | exact ⟨mp.ne m1_6 rfl⟩ | exact ⟨mp.ne m1_6 (by assumption)⟩ | exact ⟨Ne.symm (m1_6.ne mp (by assumption))⟩)
    have hR := hR.offT m1_6 hU1_7.but (by first | rfl | assumption)
    have m1 := m1.off hU1_7.but (by first | exact nm1_1_6 | exact ⟨m1.ne m1_6 rfl⟩ | exact ⟨m1.ne m1_6 (by assumption)⟩ | exact ⟨Ne.symm (m1_6.ne m1 (by assumption))⟩)
    have m2 := m2.off hU1_7.but (by first | exact nm2_1_6 | exact ⟨m2.ne m1_6 rfl⟩ | exact ⟨m2.ne m1_6 (by assumption)⟩ | exact ⟨Ne.symm (m1_6.ne m2 (by assumption))⟩)
    have hX := hX.upd hU1_7.but gb1_6
    have m1_6 := hU1_7.blk
    refine xl_pure rfl rfl rfl (pv_assign (v := .int _ _) rfl rfl) ?_
    refine xl_nil ?_
    refine xthen_normal ?_
    refine xc_seq ?_
    refine xc_seq ?_
    refine xc_region ?_
    refine xl_pure rfl rfl rfl (pv_move (v := .int _ _) rfl rfl) ?_
    refine xl_ndec rfl rfl rfl (pv_neq rfl rfl rfl) (fun h2_1 => ?_) (fun h2_1 => ?_)
    · first
      | (exfalso; omega)
      |  (skip
          refine xl_nil ?_
          refine xthen_normal ?_
          refine xc_cond_f rfl ?_
          refine xc_skip ?_
          refine xthen_normal ?_
          refine xc_seq ?_
          refine xc_region ?_
          refine xl_pure rfl rfl rfl (pv_move rfl rfl) ?_
          refine xl_heavy rfl rfl rfl (hv_call (g := 35) rfl rfl (c35 d0 d1 d2 d3 d4 d5 d6 d7 d8 p q hi m1_6 m1 m2) rfl) ?_
          rintro v4_1 H4_1 ⟨rfl, hB4_1, hT4_1⟩
          have mp := mp.off hB4_1 (by first | exact nmp_1_6 | exact ⟨mp.ne m1_6 rfl⟩ | exact ⟨mp.ne m1_6 (by assumption)⟩ | exact ⟨Ne.symm (m1_6.ne mp (by assumption))⟩)
          have hR := hR.offT m1_6 hB4_1 (by first | rfl | assumption)
          have m1 := m1.off hB4_1 (by first | exact nm1_1_6 | exact ⟨m1.ne m1_6 rfl⟩ | exact ⟨m1.ne m1_6 (by assumption)⟩ | exact ⟨Ne.symm (m1_6.ne m1 (by assumption))⟩)
          have m2 := m2.off hB4_1 (by first | exact nm2_1_6 | exact ⟨m2.ne m1_6 rfl⟩ | exact ⟨m2.ne m1_6 (by assumption)⟩ | exact ⟨Ne.symm (m1_6.ne m2 (by assumption))⟩)
          have hX := hX.upd hB4_1 gb1_6
          have m1_6 := hT4_1
          refine xl_pure rfl rfl rfl (pv_assign (v := .int _ _) rfl rfl) ?_
          refine xl_nil ?_
          refine xthen_normal ?_
          refine xc_seq ?_
          refine xc_seq ?_
          refine xc_region ?_
          refine xl_pure rfl rfl rfl (pv_move (v := .int _ _) rfl rfl) ?_
          refine xl_dec rfl rfl rfl (pv_eql rfl rfl rfl) (fun h5_1 => ?_) (fun h5_1 => ?_)
          · skip
            refine xl_nil ?_
            refine xthen_normal ?_
            refine xc_cond_t rfl ?_
            refine xp_start rfl (by repeat (first | with_reducible exact np_fin | with_reducible refine np_then ?_ | with_reducible refine np_block ?_)) (by kernel_rfl) ?_
            refine xp_pure (i := 0) rfl (by kernel_rfl) (by kernel_rfl) rfl rfl rfl (pv_move (v := .pointer _) rfl rfl) ?_
            refine xp_pure (i := 1) rfl (by kernel_rfl) (by kernel_rfl) rfl rfl rfl (pv_nilCheck_p rfl rfl) ?_
            refine xp_pure (i := 2) rfl (by kernel_rfl) (by kernel_rfl) rfl rfl rfl (pv_fieldAddr rfl rfl) ?_
            refine xp_pure (i := 3) rfl (by kernel_rfl) (by kernel_rfl) rfl rfl rfl (pv_move (v := .int _ _) rfl rfl) ?_
            refine xp_light (i := 5) rfl (by kernel_rfl) (by kernel_rfl) rfl rfl rfl (lv_load (v := .agg _) rfl rfl (ld_blk_a m1_6 rfl rfl)) ?_
            refine xp_heavy (i := 4) (by kernel_rfl) ?_
            refine xph_val rfl rfl rfl rfl (hv_call (g := 21) rfl rfl (c21 o) rfl) (pk (by kernel_rfl) pn) ?_
            rintro v6_4 H6_4 ⟨rfl, hE6_4⟩
            have mp := mp.ext hE6_4
            have hR := hR.ext hE6_4
            have m1 := m1.ext hE6_4
            have m2 := m2.ext hE6_4
            have m1_6 := m1_6.ext hE6_4
            have hX := hX.transE hE6_4
            refine ⟨(okc (lv_load (v := .agg _) rfl rfl (ld_blk_a m1_6 rfl rfl)) okn), ?_⟩
            refine xp_heavy (i := 6) (by kernel_rfl) ?_
            refine xph_val rfl rfl rfl rfl (hv_call (g := 20) rfl rfl (c20 mp hR rfl hg.srt hc hna (by omega) [o, 0, 0, 0] rfl [d0, d1, d2, d3, d4, learnM d5 d6 p q, learnT d5 d6 p q, d7, d8] rfl) rfl) (pd (by kernel_rfl) pn) ?_
            rintro v6_6 H6_6 ⟨a6_6, c6_6, hv6_6, hU6_6, hR6_6, hc6_6, hna6_6⟩
            have hR := hR.offT mp hU6_6.but (by first | rfl | assumption)
            have m1 := m1.off hU6_6.but (by first | exact nmp_1.symm | exact ⟨m1.ne mp rfl⟩ | exact ⟨m1.ne mp (by assumption)⟩ | exact ⟨Ne.symm (mp.ne m1 (by assumption))⟩)
            have m2 := m2.off hU6_6.but (by first | exact nmp_2.symm | exact ⟨m2.ne mp rfl⟩ | exact ⟨m2.ne mp (by assumption)⟩ | exact ⟨Ne.symm (mp.ne m2 (by assumption))⟩)
            have m1_6 := m1_6.off hU6_6.but (by first | exact nmp_1_6.symm | exact ⟨m1_6.ne mp rfl⟩ | exact ⟨m1_6.ne mp (by assumption)⟩ | exact ⟨Ne.symm (mp.ne m1_6 (by assumption))⟩)
            have hX := hX.trans hU6_6.but
            have mp := hU6_6.blk
            refine ⟨okn, ?_⟩
            refine xp_done (by kernel_rfl) ?_
            refine xthen_normal ?_
            refine xc_seq ?_
            refine xc_region ?_
            refine xl_pure rfl rfl rfl (pv_move (v := .int _ _) rfl rfl) ?_
            refine xl_pure rfl rfl rfl (pv_assign (v := .int _ _) rfl rfl) ?_
            refine xl_nil ?_
            refine xthen_normal ?_
            refine xc_ret ?_
            refine fin_ret (res1 (v := .int _ _) rfl rfl) ?_
            first
              | (obtain ⟨e1, e2⟩ := ch_ok (E := learnEL p q) (F := learnL p q) hh hd h5_1; exact ⟨_, _, by rw [e1, h5_1], hX, by rw [e2]; exact mp, by rw [e2]; exact hR6_6, by rw [e2]; exact hc6_6, hna6_6⟩)
              | (obtain ⟨e1, e2⟩ := ch_bad (E := learnEL p q) (F := learnL p q) hh hd h5_1; exact ⟨a, c, by rw [e1]; rfl, hX, by rw [e2]; exact mp, by rw [e2]; exact hR, by rw [e2]; exact hc, hna⟩)
          · skip
            refine xl_nil ?_
            refine xthen_normal ?_
            refine xc_cond_f rfl ?_
            refine xc_skip ?_
            refine xthen_normal ?_
            refine xc_seq ?_
            refine xc_region ?_
            refine xl_pure rfl rfl rfl (pv_move (v := .int _ _) rfl rfl) ?_
            refine xl_pure rfl rfl rfl (pv_assign (v := .int _ _) rfl rfl) ?_
            refine xl_nil ?_
            refine xthen_normal ?_
            refine xc_ret ?_
            refine fin_ret (res1 (v := .int _ _) rfl rfl) ?_
            first
              | (obtain ⟨e1, e2⟩ := ch_ok (E := learnEL p q) (F := learnL p q) hh hd h5_1; exact ⟨_, _, by rw [e1, h5_1], hX, by rw [e2]; exact mp, by rw [e2]; exact hR6_6, by rw [e2]; exact hc6_6, hna6_6⟩)
              | (obtain ⟨e1, e2⟩ := ch_bad (E := learnEL p q) (F := learnL p q) hh hd h5_1; exact ⟨a, c, by rw [e1]; rfl, hX, by rw [e2]; exact mp, by rw [e2]; exact hR, by rw [e2]; exact hc, hna⟩))
    · first
      | (exfalso; omega)
      |  (skip
          refine xl_nil ?_
          refine xthen_normal ?_
          refine xc_cond_t rfl ?_
          refine xc_seq ?_
          refine xc_region ?_
          refine xl_pure rfl rfl rfl (pv_move (v := .int _ _) rfl rfl) ?_
          refine xl_pure rfl rfl rfl (pv_assign (v := .int _ _) rfl rfl) ?_
          refine xl_nil ?_
          refine xthen_normal ?_
          refine xc_ret ?_
          refine xthen_ret ?_
          refine fin_ret (res1 (v := .int _ _) rfl rfl) ?_
          obtain ⟨e1, e2⟩ := ch_no (E := learnEL p q) (F := learnL p q) hh
          exact ⟨a, c, by rw [e1], hX, by rw [e2]; exact mp, by rw [e2]; exact hR, by rw [e2]; exact hc, hna⟩)

theorem c25n {O : Outer} {H : Heap} (o : Int) {vf : Value} :
    FnC Try.prog 25 #[.pointer none, .int .i64 o, vf] O H (fun v H' => v = .int .i64 1 ∧ Ext H H') := by
  refine fn_enter (A := [.pointer none, .int .i64 o, vf]) Try.func25 rfl rfl ?_
  have hX := Ext.refl H
  refine xc_seq ?_
  refine xc_region ?_
  refine xl_pure rfl rfl rfl (pv_assign (v := .int _ _) rfl rfl) ?_
  refine xl_nil ?_
  refine xthen_normal ?_
  refine xc_seq ?_
  refine xc_region ?_
  refine xl_pure rfl rfl rfl (pv_move (v := .pointer _) rfl rfl) ?_
  refine xl_pure rfl rfl rfl (pv_move (v := .int _ _) rfl rfl) ?_
  refine xl_heavy rfl rfl rfl (hv_call (g := 8) rfl rfl (c8n o) rfl) ?_
  rintro v1_2 H1_2 ⟨rfl, hE1_2⟩
  have hX := hX.trans hE1_2
  refine xl_pure rfl rfl rfl (pv_move (v := .tuple _) rfl rfl) ?_
  refine xl_pure rfl rfl rfl (pv_extract (v := .agg _) rfl rfl rfl) ?_
  refine xl_pure rfl rfl rfl (pv_extract (v := .int _ _) rfl rfl rfl) ?_
  refine xl_heavy rfl rfl rfl (hv_alloc rfl rfl) ?_
  rintro v1_6 H1_6 ⟨b1_6, rfl, hN1_6⟩
  have gb1_6 := hX.fresh hN1_6
  have hX := hX.trans hN1_6.ext
  have m1_6 := hN1_6.blk
  refine xl_store rfl rfl (hv_storeA (vs := [.int _ _, .int _ _, .int _ _, .int _ _, .int _ _, .int _ _, .int _ _, .int _ _, .int _ _]) rfl rfl rfl (m1_6) rfl (by rfl) rfl) ?_
  rintro v1_7 H1_7 ⟨hU1_7, hZ1_7⟩
  have hX := hX.upd hU1_7.but gb1_6
  have m1_6 := hU1_7.blk
  refine xl_pure rfl rfl rfl (pv_assign (v := .int _ _) rfl rfl) ?_
  refine xl_nil ?_
  refine xthen_normal ?_
  refine xc_seq ?_
  refine xc_seq ?_
  refine xc_region ?_
  refine xl_pure rfl rfl rfl (pv_move (v := .int _ _) rfl rfl) ?_
  refine xl_ndec rfl rfl rfl (pv_neq rfl rfl rfl) (fun h2_1 => ?_) (fun h2_1 => ?_)
  · exact absurd h2_1 (by decide)
  · skip
    refine xl_nil ?_
    refine xthen_normal ?_
    refine xc_cond_t rfl ?_
    refine xc_seq ?_
    refine xc_region ?_
    refine xl_pure rfl rfl rfl (pv_move (v := .int _ _) rfl rfl) ?_
    refine xl_pure rfl rfl rfl (pv_assign (v := .int _ _) rfl rfl) ?_
    refine xl_nil ?_
    refine xthen_normal ?_
    refine xc_ret ?_
    refine xthen_ret ?_
    refine fin_ret (res1 (v := .int _ _) rfl rfl) ?_
    exact ⟨rfl, hX⟩

theorem c9 {O : Outer} {H : Heap} {bp c : Nat} {a : Option Addr} {l : List (List Int)} {g : Int} (mp : Blk H bp [.slice a (l).length c, .int .i64 g] 29) (hR : RowsT H 75 13 a l) (hc : l.length ≤ c) (hna : a = none → c = 0) (hl : l.length < 1000000) (hg : Goo l) (o p q : Int) :
    FnC Try.prog 9 #[.pointer (some ⟨bp, 0, none⟩), .int .i64 o, .int .i64 p, .int .i64 q] O H (fun v H' => ∃ a' c', v = .int .i64 (chE (useEL p q) l o) ∧ But bp H H' ∧ Blk H' bp [.slice a' (chL (useEL p q) (useL p q) l o).length c', .int .i64 g] 29 ∧ RowsT H' 75 13 a' (chL (useEL p q) (useL p q) l o) ∧ (chL (useEL p q) (useL p q) l o).length ≤ c' ∧ (a' = none → c' = 0)) := by
  refine fn_enter (A := [.pointer (some ⟨bp, 0, none⟩), .int .i64 o, .int .i64 p, .int .i64 q]) Try.func9 rfl rfl ?_
  have hX := But.refl bp H
  refine xc_seq ?_
  refine xc_region ?_
  refine xl_heavy rfl rfl rfl (hv_box rfl rfl) ?_
  rintro v0_0 H0_0 ⟨b0_0, rfl, hN0_0⟩
  have gb0_0 := hX.fresh hN0_0
  have nmp_0_0 := mp.apart hN0_0
  have mp := mp.ext hN0_0.ext
  have hR := hR.ext hN0_0.ext
  have hX := hX.transE hN0_0.ext
  have m0_0 := hN0_0.blk
  refine xl_heavy rfl rfl rfl (hv_box rfl rfl) ?_
  rintro v0_1 H0_1 ⟨b0_1, rfl, hN0_1⟩
  have gb0_1 := hX.fresh hN0_1
  have nmp_0_1 := mp.apart hN0_1
  have nm0_0_0_1 := m0_0.apart hN0_1
  have mp := mp.ext hN0_1.ext
  have hR := hR.ext hN0_1.ext
  have m0_0 := m0_0.ext hN0_1.ext
  have hX := hX.transE hN0_1.ext
  have m0_1 := hN0_1.blk
  refine xl_pure rfl rfl rfl (pv_assign (v := .int _ _) rfl rfl) ?_
  refine xl_nil ?_
  refine xthen_normal ?_
  refine xc_seq ?_
  refine xc_region ?_
  refine xl_pure rfl rfl rfl (pv_move (v := .pointer _) rfl rfl) ?_
  refine xl_pure rfl rfl rfl (pv_move (v := .int _ _) rfl rfl) ?_
  refine xl_pure rfl rfl rfl (pv_makeFunc (a := []) (b := [.pointer _, .pointer _]) rfl rfl rfl) ?_
  refine xl_heavy rfl rfl rfl (hv_call (g := 25) rfl rfl (c25u mp hR hc hna hl hg o p q m0_0 m0_1) rfl) ?_
  rintro v1_3 H1_3 ⟨a1_3, c1_3, rfl, hB1_3, hT1_3, hR1_3, hc1_3, hna1_3⟩
  have hR := hR.offT mp hB1_3 (by first | rfl | assumption)
  have m0_0 := m0_0.off hB1_3 (by first | exact nmp_0_0.symm | exact ⟨m0_0.ne mp rfl⟩ | exact ⟨m0_0.ne mp (by assumption)⟩ | exact ⟨Ne.symm (mp.ne m0_0 (by assumption))⟩)
  have m0_1 := m0_1.off hB1_3 (by first | exact nmp_0_1.symm | exact ⟨m0_1.ne mp rfl⟩ | exact ⟨m0_1.ne mp (by assumption)⟩ | exact ⟨Ne.symm (mp.ne m0_1 (by assumption))⟩)
  have hX := hX.trans hB1_3
  have mp := hT1_3
  refine xl_pure rfl rfl rfl (pv_assign (v := .int _ _) rfl rfl) ?_
  refine xl_nil ?_
  refine xthen_normal ?_
  refine xc_ret ?_
  refine fin_ret (res1 (v := .int _ _) rfl rfl) ?_
  exact ⟨_, _, rfl, hX, mp, hR1_3, hc1_3, hna1_3⟩

theorem c9n {O : Outer} {H : Heap} (o p q : Int) :
    FnC Try.prog 9 #[.pointer none, .int .i64 o, .int .i64 p, .int .i64 q] O H (fun v H' => v = .int .i64 1 ∧ Ext H H') := by
  refine fn_enter (A := [.pointer none, .int .i64 o, .int .i64 p, .int .i64 q]) Try.func9 rfl rfl ?_
  have hX := Ext.refl H
  refine xc_seq ?_
  refine xc_region ?_
  refine xl_heavy rfl rfl rfl (hv_box rfl rfl) ?_
  rintro v0_0 H0_0 ⟨b0_0, rfl, hN0_0⟩
  have gb0_0 := hX.fresh hN0_0
  have hX := hX.trans hN0_0.ext
  have m0_0 := hN0_0.blk
  refine xl_heavy rfl rfl rfl (hv_box rfl rfl) ?_
  rintro v0_1 H0_1 ⟨b0_1, rfl, hN0_1⟩
  have gb0_1 := hX.fresh hN0_1
  have nm0_0_0_1 := m0_0.apart hN0_1
  have m0_0 := m0_0.ext hN0_1.ext
  have hX := hX.trans hN0_1.ext
  have m0_1 := hN0_1.blk
  refine xl_pure rfl rfl rfl (pv_assign (v := .int _ _) rfl rfl) ?_
  refine xl_nil ?_
  refine xthen_normal ?_
  refine xc_seq ?_
  refine xc_region ?_
  refine xl_pure rfl rfl rfl (pv_move (v := .pointer _) rfl rfl) ?_
  refine xl_pure rfl rfl rfl (pv_move (v := .int _ _) rfl rfl) ?_
  refine xl_pure rfl rfl rfl (pv_makeFunc (a := []) (b := [.pointer _, .pointer _]) rfl rfl rfl) ?_
  refine xl_heavy rfl rfl rfl (hv_call (g := 25) rfl rfl (c25n o) rfl) ?_
  rintro v1_3 H1_3 ⟨rfl, hE1_3⟩
  have m0_0 := m0_0.ext hE1_3
  have m0_1 := m0_1.ext hE1_3
  have hX := hX.trans hE1_3
  refine xl_pure rfl rfl rfl (pv_assign (v := .int _ _) rfl rfl) ?_
  refine xl_nil ?_
  refine xthen_normal ?_
  refine xc_ret ?_
  refine fin_ret (res1 (v := .int _ _) rfl rfl) ?_
  exact ⟨rfl, hX⟩

theorem c11 {O : Outer} {H : Heap} {bp c : Nat} {a : Option Addr} {l : List (List Int)} {g : Int} (mp : Blk H bp [.slice a (l).length c, .int .i64 g] 29) (hR : RowsT H 75 13 a l) (hc : l.length ≤ c) (hna : a = none → c = 0) (hl : l.length < 1000000) (hg : Goo l) (o p q : Int) :
    FnC Try.prog 11 #[.pointer (some ⟨bp, 0, none⟩), .int .i64 o, .int .i64 p, .int .i64 q] O H (fun v H' => ∃ a' c', v = .int .i64 (chE (freeEL p q) l o) ∧ But bp H H' ∧ Blk H' bp [.slice a' (chL (freeEL p q) (freeL p q) l o).length c', .int .i64 g] 29 ∧ RowsT H' 75 13 a' (chL (freeEL p q) (freeL p q) l o) ∧ (chL (freeEL p q) (freeL p q) l o).length ≤ c' ∧ (a' = none → c' = 0)) := by
  refine fn_enter (A := [.pointer (some ⟨bp, 0, none⟩), .int .i64 o, .int .i64 p, .int .i64 q]) Try.func11 rfl rfl ?_
  have hX := But.refl bp H
  refine xc_seq ?_
  refine xc_region ?_
  refine xl_heavy rfl rfl rfl (hv_box rfl rfl) ?_
  rintro v0_0 H0_0 ⟨b0_0, rfl, hN0_0⟩
  have gb0_0 := hX.fresh hN0_0
  have nmp_0_0 := mp.apart hN0_0
  have mp := mp.ext hN0_0.ext
  have hR := hR.ext hN0_0.ext
  have hX := hX.transE hN0_0.ext
  have m0_0 := hN0_0.blk
  refine xl_heavy rfl rfl rfl (hv_box rfl rfl) ?_
  rintro v0_1 H0_1 ⟨b0_1, rfl, hN0_1⟩
  have gb0_1 := hX.fresh hN0_1
  have nmp_0_1 := mp.apart hN0_1
  have nm0_0_0_1 := m0_0.apart hN0_1
  have mp := mp.ext hN0_1.ext
  have hR := hR.ext hN0_1.ext
  have m0_0 := m0_0.ext hN0_1.ext
  have hX := hX.transE hN0_1.ext
  have m0_1 := hN0_1.blk
  refine xl_pure rfl rfl rfl (pv_assign (v := .int _ _) rfl rfl) ?_
  refine xl_nil ?_
  refine xthen_normal ?_
  refine xc_seq ?_
  refine xc_region ?_
  refine xl_pure rfl rfl rfl (pv_move (v := .pointer _) rfl rfl) ?_
  refine xl_pure rfl rfl rfl (pv_move (v := .int _ _) rfl rfl) ?_
  refine xl_pure rfl rfl rfl (pv_makeFunc (a := []) (b := [.pointer _, .pointer _]) rfl rfl rfl) ?_
  refine xl_heavy rfl rfl rfl (hv_call (g := 25) rfl rfl (c25f mp hR hc hna hl hg o p q m0_0 m0_1) rfl) ?_
  rintro v1_3 H1_3 ⟨a1_3, c1_3, rfl, hB1_3, hT1_3, hR1_3, hc1_3, hna1_3⟩
  have hR := hR.offT mp hB1_3 (by first | rfl | assumption)
  have m0_0 := m0_0.off hB1_3 (by first | exact nmp_0_0.symm | exact ⟨m0_0.ne mp rfl⟩ | exact ⟨m0_0.ne mp (by assumption)⟩ | exact ⟨Ne.symm (mp.ne m0_0 (by assumption))⟩)
  have m0_1 := m0_1.off hB1_3 (by first | exact nmp_0_1.symm | exact ⟨m0_1.ne mp rfl⟩ | exact ⟨m0_1.ne mp (by assumption)⟩ | exact ⟨Ne.symm (mp.ne m0_1 (by assumption))⟩)
  have hX := hX.trans hB1_3
  have mp := hT1_3
  refine xl_pure rfl rfl rfl (pv_assign (v := .int _ _) rfl rfl) ?_
  refine xl_nil ?_
  refine xthen_normal ?_
  refine xc_ret ?_
  refine fin_ret (res1 (v := .int _ _) rfl rfl) ?_
  exact ⟨_, _, rfl, hX, mp, hR1_3, hc1_3, hna1_3⟩

theorem c11n {O : Outer} {H : Heap} (o p q : Int) :
    FnC Try.prog 11 #[.pointer none, .int .i64 o, .int .i64 p, .int .i64 q] O H (fun v H' => v = .int .i64 1 ∧ Ext H H') := by
  refine fn_enter (A := [.pointer none, .int .i64 o, .int .i64 p, .int .i64 q]) Try.func11 rfl rfl ?_
  have hX := Ext.refl H
  refine xc_seq ?_
  refine xc_region ?_
  refine xl_heavy rfl rfl rfl (hv_box rfl rfl) ?_
  rintro v0_0 H0_0 ⟨b0_0, rfl, hN0_0⟩
  have gb0_0 := hX.fresh hN0_0
  have hX := hX.trans hN0_0.ext
  have m0_0 := hN0_0.blk
  refine xl_heavy rfl rfl rfl (hv_box rfl rfl) ?_
  rintro v0_1 H0_1 ⟨b0_1, rfl, hN0_1⟩
  have gb0_1 := hX.fresh hN0_1
  have nm0_0_0_1 := m0_0.apart hN0_1
  have m0_0 := m0_0.ext hN0_1.ext
  have hX := hX.trans hN0_1.ext
  have m0_1 := hN0_1.blk
  refine xl_pure rfl rfl rfl (pv_assign (v := .int _ _) rfl rfl) ?_
  refine xl_nil ?_
  refine xthen_normal ?_
  refine xc_seq ?_
  refine xc_region ?_
  refine xl_pure rfl rfl rfl (pv_move (v := .pointer _) rfl rfl) ?_
  refine xl_pure rfl rfl rfl (pv_move (v := .int _ _) rfl rfl) ?_
  refine xl_pure rfl rfl rfl (pv_makeFunc (a := []) (b := [.pointer _, .pointer _]) rfl rfl rfl) ?_
  refine xl_heavy rfl rfl rfl (hv_call (g := 25) rfl rfl (c25n o) rfl) ?_
  rintro v1_3 H1_3 ⟨rfl, hE1_3⟩
  have m0_0 := m0_0.ext hE1_3
  have m0_1 := m0_1.ext hE1_3
  have hX := hX.trans hE1_3
  refine xl_pure rfl rfl rfl (pv_assign (v := .int _ _) rfl rfl) ?_
  refine xl_nil ?_
  refine xthen_normal ?_
  refine xc_ret ?_
  refine fin_ret (res1 (v := .int _ _) rfl rfl) ?_
  exact ⟨rfl, hX⟩

theorem c10 {O : Outer} {H : Heap} {bp c : Nat} {a : Option Addr} {l : List (List Int)} {g : Int} (mp : Blk H bp [.slice a (l).length c, .int .i64 g] 29) (hR : RowsT H 75 13 a l) (hc : l.length ≤ c) (hna : a = none → c = 0) (hl : l.length < 1000000) (hg : Goo l) (o p q : Int) :
    FnC Try.prog 10 #[.pointer (some ⟨bp, 0, none⟩), .int .i64 o, .int .i64 p, .int .i64 q] O H (fun v H' => ∃ a' c', v = .int .i64 (chE (giveEL p q) l o) ∧ But bp H H' ∧ Blk H' bp [.slice a' (chL (giveEL p q) (giveL p q) l o).length c', .int .i64 g] 29 ∧ RowsT H' 75 13 a' (chL (giveEL p q) (giveL p q) l o) ∧ (chL (giveEL p q) (giveL p q) l o).length ≤ c' ∧ (a' = none → c' = 0)) := by
  refine fn_enter (A := [.pointer (some ⟨bp, 0, none⟩), .int .i64 o, .int .i64 p, .int .i64 q]) Try.func10 rfl rfl ?_
  have hX := But.refl bp H
  refine xc_seq ?_
  refine xc_region ?_
  refine xl_heavy rfl rfl rfl (hv_box rfl rfl) ?_
  rintro v0_0 H0_0 ⟨b0_0, rfl, hN0_0⟩
  have gb0_0 := hX.fresh hN0_0
  have nmp_0_0 := mp.apart hN0_0
  have mp := mp.ext hN0_0.ext
  have hR := hR.ext hN0_0.ext
  have hX := hX.transE hN0_0.ext
  have m0_0 := hN0_0.blk
  refine xl_heavy rfl rfl rfl (hv_box rfl rfl) ?_
  rintro v0_1 H0_1 ⟨b0_1, rfl, hN0_1⟩
  have gb0_1 := hX.fresh hN0_1
  have nmp_0_1 := mp.apart hN0_1
  have nm0_0_0_1 := m0_0.apart hN0_1
  have mp := mp.ext hN0_1.ext
  have hR := hR.ext hN0_1.ext
  have m0_0 := m0_0.ext hN0_1.ext
  have hX := hX.transE hN0_1.ext
  have m0_1 := hN0_1.blk
  refine xl_pure rfl rfl rfl (pv_assign (v := .int _ _) rfl rfl) ?_
  refine xl_nil ?_
  refine xthen_normal ?_
  refine xc_seq ?_
  refine xc_region ?_
  refine xl_pure rfl rfl rfl (pv_move (v := .pointer _) rfl rfl) ?_
  refine xl_pure rfl rfl rfl (pv_move (v := .int _ _) rfl rfl) ?_
  refine xl_pure rfl rfl rfl (pv_makeFunc (a := []) (b := [.pointer _, .pointer _]) rfl rfl rfl) ?_
  refine xl_heavy rfl rfl rfl (hv_call (g := 25) rfl rfl (c25g mp hR hc hna hl hg o p q m0_0 m0_1) rfl) ?_
  rintro v1_3 H1_3 ⟨a1_3, c1_3, rfl, hB1_3, hT1_3, hR1_3, hc1_3, hna1_3⟩
  have hR := hR.offT mp hB1_3 (by first | rfl | assumption)
  have m0_0 := m0_0.off hB1_3 (by first | exact nmp_0_0.symm | exact ⟨m0_0.ne mp rfl⟩ | exact ⟨m0_0.ne mp (by assumption)⟩ | exact ⟨Ne.symm (mp.ne m0_0 (by assumption))⟩)
  have m0_1 := m0_1.off hB1_3 (by first | exact nmp_0_1.symm | exact ⟨m0_1.ne mp rfl⟩ | exact ⟨m0_1.ne mp (by assumption)⟩ | exact ⟨Ne.symm (mp.ne m0_1 (by assumption))⟩)
  have hX := hX.trans hB1_3
  have mp := hT1_3
  refine xl_pure rfl rfl rfl (pv_assign (v := .int _ _) rfl rfl) ?_
  refine xl_nil ?_
  refine xthen_normal ?_
  refine xc_ret ?_
  refine fin_ret (res1 (v := .int _ _) rfl rfl) ?_
  exact ⟨_, _, rfl, hX, mp, hR1_3, hc1_3, hna1_3⟩

theorem c10n {O : Outer} {H : Heap} (o p q : Int) :
    FnC Try.prog 10 #[.pointer none, .int .i64 o, .int .i64 p, .int .i64 q] O H (fun v H' => v = .int .i64 1 ∧ Ext H H') := by
  refine fn_enter (A := [.pointer none, .int .i64 o, .int .i64 p, .int .i64 q]) Try.func10 rfl rfl ?_
  have hX := Ext.refl H
  refine xc_seq ?_
  refine xc_region ?_
  refine xl_heavy rfl rfl rfl (hv_box rfl rfl) ?_
  rintro v0_0 H0_0 ⟨b0_0, rfl, hN0_0⟩
  have gb0_0 := hX.fresh hN0_0
  have hX := hX.trans hN0_0.ext
  have m0_0 := hN0_0.blk
  refine xl_heavy rfl rfl rfl (hv_box rfl rfl) ?_
  rintro v0_1 H0_1 ⟨b0_1, rfl, hN0_1⟩
  have gb0_1 := hX.fresh hN0_1
  have nm0_0_0_1 := m0_0.apart hN0_1
  have m0_0 := m0_0.ext hN0_1.ext
  have hX := hX.trans hN0_1.ext
  have m0_1 := hN0_1.blk
  refine xl_pure rfl rfl rfl (pv_assign (v := .int _ _) rfl rfl) ?_
  refine xl_nil ?_
  refine xthen_normal ?_
  refine xc_seq ?_
  refine xc_region ?_
  refine xl_pure rfl rfl rfl (pv_move (v := .pointer _) rfl rfl) ?_
  refine xl_pure rfl rfl rfl (pv_move (v := .int _ _) rfl rfl) ?_
  refine xl_pure rfl rfl rfl (pv_makeFunc (a := []) (b := [.pointer _, .pointer _]) rfl rfl rfl) ?_
  refine xl_heavy rfl rfl rfl (hv_call (g := 25) rfl rfl (c25n o) rfl) ?_
  rintro v1_3 H1_3 ⟨rfl, hE1_3⟩
  have m0_0 := m0_0.ext hE1_3
  have m0_1 := m0_1.ext hE1_3
  have hX := hX.trans hE1_3
  refine xl_pure rfl rfl rfl (pv_assign (v := .int _ _) rfl rfl) ?_
  refine xl_nil ?_
  refine xthen_normal ?_
  refine xc_ret ?_
  refine fin_ret (res1 (v := .int _ _) rfl rfl) ?_
  exact ⟨rfl, hX⟩

theorem c31 {O : Outer} {H : Heap} {bp c : Nat} {a : Option Addr} {l : List (List Int)} {g : Int} (mp : Blk H bp [.slice a (l).length c, .int .i64 g] 29) (hR : RowsT H 75 13 a l) (hc : l.length ≤ c) (hna : a = none → c = 0) (hl : l.length < 1000000) (hg : Goo l) (o p q : Int) :
    FnC Try.prog 31 #[.pointer (some ⟨bp, 0, none⟩), .int .i64 o, .int .i64 p, .int .i64 q] O H (fun v H' => ∃ a' c', v = .int .i64 (chE (learnEL p q) l o) ∧ But bp H H' ∧ Blk H' bp [.slice a' (chL (learnEL p q) (learnL p q) l o).length c', .int .i64 g] 29 ∧ RowsT H' 75 13 a' (chL (learnEL p q) (learnL p q) l o) ∧ (chL (learnEL p q) (learnL p q) l o).length ≤ c' ∧ (a' = none → c' = 0)) := by
  refine fn_enter (A := [.pointer (some ⟨bp, 0, none⟩), .int .i64 o, .int .i64 p, .int .i64 q]) Try.func31 rfl rfl ?_
  have hX := But.refl bp H
  refine xc_seq ?_
  refine xc_region ?_
  refine xl_heavy rfl rfl rfl (hv_box rfl rfl) ?_
  rintro v0_0 H0_0 ⟨b0_0, rfl, hN0_0⟩
  have gb0_0 := hX.fresh hN0_0
  have nmp_0_0 := mp.apart hN0_0
  have mp := mp.ext hN0_0.ext
  have hR := hR.ext hN0_0.ext
  have hX := hX.transE hN0_0.ext
  have m0_0 := hN0_0.blk
  refine xl_heavy rfl rfl rfl (hv_box rfl rfl) ?_
  rintro v0_1 H0_1 ⟨b0_1, rfl, hN0_1⟩
  have gb0_1 := hX.fresh hN0_1
  have nmp_0_1 := mp.apart hN0_1
  have nm0_0_0_1 := m0_0.apart hN0_1
  have mp := mp.ext hN0_1.ext
  have hR := hR.ext hN0_1.ext
  have m0_0 := m0_0.ext hN0_1.ext
  have hX := hX.transE hN0_1.ext
  have m0_1 := hN0_1.blk
  refine xl_pure rfl rfl rfl (pv_assign (v := .int _ _) rfl rfl) ?_
  refine xl_nil ?_
  refine xthen_normal ?_
  refine xc_seq ?_
  refine xc_region ?_
  refine xl_pure rfl rfl rfl (pv_move (v := .pointer _) rfl rfl) ?_
  refine xl_pure rfl rfl rfl (pv_move (v := .int _ _) rfl rfl) ?_
  refine xl_pure rfl rfl rfl (pv_makeFunc (a := []) (b := [.pointer _, .pointer _]) rfl rfl rfl) ?_
  refine xl_heavy rfl rfl rfl (hv_call (g := 25) rfl rfl (c25l mp hR hc hna hl hg o p q m0_0 m0_1) rfl) ?_
  rintro v1_3 H1_3 ⟨a1_3, c1_3, rfl, hB1_3, hT1_3, hR1_3, hc1_3, hna1_3⟩
  have hR := hR.offT mp hB1_3 (by first | rfl | assumption)
  have m0_0 := m0_0.off hB1_3 (by first | exact nmp_0_0.symm | exact ⟨m0_0.ne mp rfl⟩ | exact ⟨m0_0.ne mp (by assumption)⟩ | exact ⟨Ne.symm (mp.ne m0_0 (by assumption))⟩)
  have m0_1 := m0_1.off hB1_3 (by first | exact nmp_0_1.symm | exact ⟨m0_1.ne mp rfl⟩ | exact ⟨m0_1.ne mp (by assumption)⟩ | exact ⟨Ne.symm (mp.ne m0_1 (by assumption))⟩)
  have hX := hX.trans hB1_3
  have mp := hT1_3
  refine xl_pure rfl rfl rfl (pv_assign (v := .int _ _) rfl rfl) ?_
  refine xl_nil ?_
  refine xthen_normal ?_
  refine xc_ret ?_
  refine fin_ret (res1 (v := .int _ _) rfl rfl) ?_
  exact ⟨_, _, rfl, hX, mp, hR1_3, hc1_3, hna1_3⟩

theorem c31n {O : Outer} {H : Heap} (o p q : Int) :
    FnC Try.prog 31 #[.pointer none, .int .i64 o, .int .i64 p, .int .i64 q] O H (fun v H' => v = .int .i64 1 ∧ Ext H H') := by
  refine fn_enter (A := [.pointer none, .int .i64 o, .int .i64 p, .int .i64 q]) Try.func31 rfl rfl ?_
  have hX := Ext.refl H
  refine xc_seq ?_
  refine xc_region ?_
  refine xl_heavy rfl rfl rfl (hv_box rfl rfl) ?_
  rintro v0_0 H0_0 ⟨b0_0, rfl, hN0_0⟩
  have gb0_0 := hX.fresh hN0_0
  have hX := hX.trans hN0_0.ext
  have m0_0 := hN0_0.blk
  refine xl_heavy rfl rfl rfl (hv_box rfl rfl) ?_
  rintro v0_1 H0_1 ⟨b0_1, rfl, hN0_1⟩
  have gb0_1 := hX.fresh hN0_1
  have nm0_0_0_1 := m0_0.apart hN0_1
  have m0_0 := m0_0.ext hN0_1.ext
  have hX := hX.trans hN0_1.ext
  have m0_1 := hN0_1.blk
  refine xl_pure rfl rfl rfl (pv_assign (v := .int _ _) rfl rfl) ?_
  refine xl_nil ?_
  refine xthen_normal ?_
  refine xc_seq ?_
  refine xc_region ?_
  refine xl_pure rfl rfl rfl (pv_move (v := .pointer _) rfl rfl) ?_
  refine xl_pure rfl rfl rfl (pv_move (v := .int _ _) rfl rfl) ?_
  refine xl_pure rfl rfl rfl (pv_makeFunc (a := []) (b := [.pointer _, .pointer _]) rfl rfl rfl) ?_
  refine xl_heavy rfl rfl rfl (hv_call (g := 25) rfl rfl (c25n o) rfl) ?_
  rintro v1_3 H1_3 ⟨rfl, hE1_3⟩
  have m0_0 := m0_0.ext hE1_3
  have m0_1 := m0_1.ext hE1_3
  have hX := hX.trans hE1_3
  refine xl_pure rfl rfl rfl (pv_assign (v := .int _ _) rfl rfl) ?_
  refine xl_nil ?_
  refine xthen_normal ?_
  refine xc_ret ?_
  refine fin_ret (res1 (v := .int _ _) rfl rfl) ?_
  exact ⟨rfl, hX⟩

theorem c15 {O : Outer} {H : Heap} {bp : Nat} {va : Value} {g : Int} (mp : Blk H bp [va, .int .i64 g] 29) (hg0 : 0 ≤ g) (hg1 : g ≤ 1099511627776) :
    FnC Try.prog 15 #[.pointer (some ⟨bp, 0, none⟩)] O H (fun v H' => v = .int .i64 (g + 1) ∧ H = H') := by
  refine fn_enter (A := [.pointer (some ⟨bp, 0, none⟩)]) Try.func15 rfl rfl ?_
  have hX := Ext.refl H
  refine xc_seq ?_
  refine xc_region ?_
  refine xl_pure rfl rfl rfl (pv_assign (v := .int _ _) rfl rfl) ?_
  refine xl_nil ?_
  refine xthen_normal ?_
  refine xc_seq ?_
  refine xc_seq ?_
  refine xc_region ?_
  refine xl_pure rfl rfl rfl (pv_move (v := .pointer _) rfl rfl) ?_
  refine xl_pure rfl rfl rfl (pv_eql_pn rfl rfl rfl) ?_
  refine xl_nil ?_
  refine xthen_normal ?_
  refine xc_cond_f rfl ?_
  refine xc_skip ?_
  refine xthen_normal ?_
  refine xc_seq ?_
  refine xc_region ?_
  refine xl_pure rfl rfl rfl (pv_move (v := .pointer _) rfl rfl) ?_
  refine xl_pure rfl rfl rfl (pv_nilCheck_p rfl rfl) ?_
  refine xl_pure rfl rfl rfl (pv_fieldAddr rfl rfl) ?_
  refine xl_light rfl rfl rfl (lv_load (v := .int _ _) rfl rfl (ld_blk mp rfl)) ?_
  refine xl_pure rfl rfl rfl (pv_add rfl rfl rfl (fit_i64 (by omega))) ?_
  refine xl_pure rfl rfl rfl (pv_assign (v := .int _ _) rfl rfl) ?_
  refine xl_nil ?_
  refine xthen_normal ?_
  refine xc_ret ?_
  refine fin_ret (res1 (v := .int _ _) rfl rfl) ?_
  exact ⟨rfl, rfl⟩

theorem c15n {O : Outer} {H : Heap}  :
    FnC Try.prog 15 #[.pointer none] O H (fun v H' => v = .int .i64 0 ∧ H = H') := by
  refine fn_enter (A := [.pointer none]) Try.func15 rfl rfl ?_
  have hX := Ext.refl H
  refine xc_seq ?_
  refine xc_region ?_
  refine xl_pure rfl rfl rfl (pv_assign (v := .int _ _) rfl rfl) ?_
  refine xl_nil ?_
  refine xthen_normal ?_
  refine xc_seq ?_
  refine xc_seq ?_
  refine xc_region ?_
  refine xl_pure rfl rfl rfl (pv_move (v := .pointer _) rfl rfl) ?_
  refine xl_pure rfl rfl rfl (pv_eql_nn rfl rfl rfl) ?_
  refine xl_nil ?_
  refine xthen_normal ?_
  refine xc_cond_t rfl ?_
  refine xc_seq ?_
  refine xc_region ?_
  refine xl_pure rfl rfl rfl (pv_assign (v := .int _ _) rfl rfl) ?_
  refine xl_nil ?_
  refine xthen_normal ?_
  refine xc_ret ?_
  refine xthen_ret ?_
  refine fin_ret (res1 (v := .int _ _) rfl rfl) ?_
  exact ⟨rfl, rfl⟩

theorem c19 {O : Outer} {H : Heap} {bp c : Nat} {a : Option Addr} {l : List (List Int)} {g : Int} (mp : Blk H bp [.slice a (l).length c, .int .i64 g] 29) (hR : RowsT H 75 13 a l) (hc : l.length ≤ c) (hna : a = none → c = 0) (hl : l.length < 1000000) (hg : Goo l) (hg0 : 0 ≤ g) (hg1 : g ≤ 1099511627776) (n : Int) (hn0 : 0 ≤ n) (hn1 : n ≤ 64) :
    FnC Try.prog 19 #[.pointer (some ⟨bp, 0, none⟩), .int .i64 n] O H (fun v H' => ((l.length + n ≤ 64 ∧ g + 1 ≤ 1099511627776 - n) ∧ v = .bool true ∨ ¬ (l.length + n ≤ 64 ∧ g + 1 ≤ 1099511627776 - n) ∧ v = .bool false) ∧ H = H') := by
  refine fn_enter (A := [.pointer (some ⟨bp, 0, none⟩), .int .i64 n]) Try.func19 rfl rfl ?_
  have hX := Ext.refl H
  refine xc_seq ?_
  refine xc_region ?_
  refine xl_pure rfl rfl rfl (pv_assign (v := .bool _) rfl rfl) ?_
  refine xl_nil ?_
  refine xthen_normal ?_
  refine xc_seq ?_
  refine xc_region ?_
  refine xl_pure rfl rfl rfl (pv_move (v := .pointer _) rfl rfl) ?_
  refine xl_pure rfl rfl rfl (pv_nilCheck_p rfl rfl) ?_
  refine xl_pure rfl rfl rfl (pv_fieldAddr rfl rfl) ?_
  refine xl_heavy rfl rfl rfl (hv_call (g := 33) rfl rfl (c33 mp) rfl) ?_
  rintro v1_3 H1_3 ⟨rfl, rfl⟩
  refine xl_pure rfl rfl rfl (pv_move (v := .int _ _) rfl rfl) ?_
  refine xl_pure rfl rfl rfl (pv_add rfl rfl rfl (fit_i64 (by omega))) ?_
  refine xl_dec rfl rfl rfl (pv_leq rfl rfl rfl) (fun h1_6 => ?_) (fun h1_6 => ?_)
  · skip
    refine xl_pure rfl rfl rfl (pv_move (v := .bool _) rfl rfl) ?_
    refine xl_pure rfl rfl rfl (pv_move (v := .pointer _) rfl rfl) ?_
    refine xl_heavy rfl rfl rfl (hv_call (g := 15) rfl rfl (c15 mp hg0 hg1) rfl) ?_
    rintro v1_9 H1_9 ⟨rfl, rfl⟩
    refine xl_pure rfl rfl rfl (pv_move (v := .int _ _) rfl rfl) ?_
    refine xl_pure rfl rfl rfl (pv_sub rfl rfl rfl (fit_i64 (by omega))) ?_
    refine xl_dec rfl rfl rfl (pv_leq rfl rfl rfl) (fun h1_12 => ?_) (fun h1_12 => ?_)
    · skip
      refine xl_pure rfl rfl rfl (pv_pick_t (v := .bool _) rfl rfl rfl) ?_
      refine xl_pure rfl rfl rfl (pv_assign (v := .bool _) rfl rfl) ?_
      refine xl_nil ?_
      refine xthen_normal ?_
      refine xc_ret ?_
      refine fin_ret (res1 (v := .bool _) rfl rfl) ?_
      first
        | exact ⟨.inl ⟨by omega, rfl⟩, rfl⟩
        | exact ⟨.inr ⟨by omega, rfl⟩, rfl⟩
    · skip
      refine xl_pure rfl rfl rfl (pv_pick_t (v := .bool _) rfl rfl rfl) ?_
      refine xl_pure rfl rfl rfl (pv_assign (v := .bool _) rfl rfl) ?_
      refine xl_nil ?_
      refine xthen_normal ?_
      refine xc_ret ?_
      refine fin_ret (res1 (v := .bool _) rfl rfl) ?_
      first
        | exact ⟨.inl ⟨by omega, rfl⟩, rfl⟩
        | exact ⟨.inr ⟨by omega, rfl⟩, rfl⟩
  · skip
    refine xl_pure rfl rfl rfl (pv_move (v := .bool _) rfl rfl) ?_
    refine xl_skip rfl rfl rfl ?_
    refine xl_skip rfl rfl rfl ?_
    refine xl_skip rfl rfl rfl ?_
    refine xl_skip rfl rfl rfl ?_
    refine xl_skip rfl rfl rfl ?_
    refine xl_pure rfl rfl rfl (pv_pick_f (v := .bool _) rfl rfl rfl) ?_
    refine xl_pure rfl rfl rfl (pv_assign (v := .bool _) rfl rfl) ?_
    refine xl_nil ?_
    refine xthen_normal ?_
    refine xc_ret ?_
    refine fin_ret (res1 (v := .bool _) rfl rfl) ?_
    first
      | exact ⟨.inl ⟨by omega, rfl⟩, rfl⟩
      | exact ⟨.inr ⟨by omega, rfl⟩, rfl⟩
end Go.XG
