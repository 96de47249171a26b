/-
  Walks of the seat's functions over the logic XG: each function, what it computes. Printed by a program out of wip/walks.py.
-/
import Derived.Test.YthglaedojgiifaaI
import Derived.Test.YthglaedojgiifaaTm
import Derived.Test.YthglaedojgiifaaTa
import Derived.Test.YthglaedojgiifaaTb
import Derived.Test.YthglaedojgiifaaTc
import Derived.Test.YthglaedojgiifaaTd
import Derived.Test.YthglaedojgiifaaTe
import Derived.Test.YthglaedojgiifaaP
import Derived.Test.YthglaedojgiifaaWa
import Derived.Test.YthglaedojgiifaaWb
import Derived.Test.YthglaedojgiifaaWc
import Derived.Test.YthglaedojgiifaaWd
import Derived.Test.YthglaedojgiifaaWe
import Derived.Test.YthglaedojgiifaaWf
import Derived.Test.YthglaedojgiifaaWg
namespace Go.XG
open Go.Proofs
set_option maxRecDepth 4000
set_option maxHeartbeats 4000000
theorem c3 {O : Outer} {H : Heap} (x0 x1 x2 x3 x4 x5 x6 x7 x8 x9 x10 x11 : Int) :
    FnC Try.prog 3 #[.agg #[.int .i64 x0, .int .i64 x1, .int .i64 x2, .int .i64 x3, .int .i64 x4, .int .i64 x5, .int .i64 x6, .int .i64 x7, .int .i64 x8, .int .i64 x9, .int .i64 x10, .int .i64 x11]] O H (fun v H' => v = .bool true ∧ Ext H H') := by
  have hanti := kcmp_anti [x0, x1, x2, x3] [x4, x5, x6, x7]
  refine fn_enter (A := [.agg #[.int .i64 x0, .int .i64 x1, .int .i64 x2, .int .i64 x3, .int .i64 x4, .int .i64 x5, .int .i64 x6, .int .i64 x7, .int .i64 x8, .int .i64 x9, .int .i64 x10, .int .i64 x11]]) Try.func3 rfl rfl ?_
  have hX := Ext.refl H
  refine xc_seq ?_
  refine xc_region ?_
  refine xl_heavy rfl rfl rfl (hv_box rfl rfl) ?_
  rintro v0_0 H0_0 ⟨b0_0, rfl, hN0_0⟩
  have gb0_0 := hX.fresh hN0_0
  have hX := hX.trans hN0_0.ext
  have m0_0 := hN0_0.blk
  refine xl_pure rfl rfl rfl (pv_assign (v := .bool _) rfl rfl) ?_
  refine xl_nil ?_
  refine xthen_normal ?_
  refine xc_cut (τ := Nat × Nat × Nat) (fun t => [(3, .pointer (some ⟨t.1, 0, none⟩)), (4, .pointer (some ⟨t.2.1, 0, none⟩)), (5, .pointer (some ⟨t.2.2, 0, none⟩))]) (fun t H' => (Blk H' t.1 (ints [x0, x1, x2, x3]) 23) ∧ (Blk H' t.2.1 (ints [x4, x5, x6, x7]) 23) ∧ (Blk H' t.2.2 (ints [x8, x9, x10, x11]) 23) ∧ (Ext H H')) ?_ ?_
  · skip
    refine xp_start rfl (by repeat (first | with_reducible exact np_fin | with_reducible refine np_then ?_ | with_reducible refine np_block ?_)) (by kernel_rfl) ?_
    refine xp_pure (i := 0) rfl (by kernel_rfl) (by kernel_rfl) rfl rfl rfl (pv_indexAddr_a rfl rfl rfl (by omega)) ?_
    refine xp_light (i := 1) rfl (by kernel_rfl) (by kernel_rfl) rfl rfl rfl (lv_load (v := .agg _) rfl rfl (ld_part (k := 0) m0_0.row rfl rfl rfl)) ?_
    refine xp_pure (i := 2) rfl (by kernel_rfl) (by kernel_rfl) rfl rfl rfl (pv_indexAddr_a rfl rfl rfl (by omega)) ?_
    refine xp_light (i := 3) rfl (by kernel_rfl) (by kernel_rfl) rfl rfl rfl (lv_load (v := .agg _) rfl rfl (ld_part (k := 4) m0_0.row rfl rfl rfl)) ?_
    refine xp_pure (i := 4) rfl (by kernel_rfl) (by kernel_rfl) rfl rfl rfl (pv_indexAddr_a rfl rfl rfl (by omega)) ?_
    refine xp_light (i := 5) rfl (by kernel_rfl) (by kernel_rfl) rfl rfl rfl (lv_load (v := .agg _) rfl rfl (ld_part (k := 8) m0_0.row rfl rfl rfl)) ?_
    refine xp_heavy3 (i := 6) (j := 7) (m := 8) (by kernel_rfl) ?_ ?_ ?_
    · skip
      refine xph_val rfl rfl rfl rfl (hv_alloc rfl rfl) (pk (by kernel_rfl) (pk (by kernel_rfl) (pk (by kernel_rfl) pn))) ?_
      rintro v1_6 H1_6 ⟨b1_6, rfl, hN1_6⟩
      have gb1_6 := hX.fresh hN1_6
      have nm0_0_1_6 := m0_0.apart hN1_6
      have m0_0 := m0_0.ext hN1_6.ext
      have hX := hX.trans hN1_6.ext
      have m1_6 := hN1_6.blk
      refine ⟨(okc (lv_load (v := .agg _) rfl rfl (ld_part (k := 8) m0_0.row rfl rfl rfl)) (okc (lv_load (v := .agg _) rfl rfl (ld_part (k := 4) m0_0.row rfl rfl rfl)) (okc (lv_load (v := .agg _) rfl rfl (ld_part (k := 0) m0_0.row rfl rfl rfl)) okn))), ?_⟩
      refine xp_heavy2 (i := 7) (j := 8) (by kernel_rfl) ?_ ?_
      · skip
        refine xph_val rfl rfl rfl rfl (hv_alloc rfl rfl) (pk (by kernel_rfl) (pk (by kernel_rfl) (pk (by kernel_rfl) pn))) ?_
        rintro v1_7 H1_7 ⟨b1_7, rfl, hN1_7⟩
        have gb1_7 := hX.fresh hN1_7
        have nm0_0_1_7 := m0_0.apart hN1_7
        have nm1_6_1_7 := m1_6.apart hN1_7
        have m0_0 := m0_0.ext hN1_7.ext
        have m1_6 := m1_6.ext hN1_7.ext
        have hX := hX.trans hN1_7.ext
        have m1_7 := hN1_7.blk
        refine ⟨(okc (lv_load (v := .agg _) rfl rfl (ld_part (k := 8) m0_0.row rfl rfl rfl)) (okc (lv_load (v := .agg _) rfl rfl (ld_part (k := 4) m0_0.row rfl rfl rfl)) (okc (lv_load (v := .agg _) rfl rfl (ld_part (k := 0) m0_0.row rfl rfl rfl)) okn))), ?_⟩
        refine xp_heavy (i := 8) (by kernel_rfl) ?_
        refine xph_val rfl rfl rfl rfl (hv_alloc rfl rfl) (pk (by kernel_rfl) (pk (by kernel_rfl) (pk (by kernel_rfl) pn))) ?_
        rintro v1_8 H1_8 ⟨b1_8, rfl, hN1_8⟩
        have gb1_8 := hX.fresh hN1_8
        have nm0_0_1_8 := m0_0.apart hN1_8
        have nm1_6_1_8 := m1_6.apart hN1_8
        have nm1_7_1_8 := m1_7.apart hN1_8
        have m0_0 := m0_0.ext hN1_8.ext
        have m1_6 := m1_6.ext hN1_8.ext
        have m1_7 := m1_7.ext hN1_8.ext
        have hX := hX.trans hN1_8.ext
        have m1_8 := hN1_8.blk
        refine ⟨(okc (lv_load (v := .agg _) rfl rfl (ld_part (k := 8) m0_0.row rfl rfl rfl)) (okc (lv_load (v := .agg _) rfl rfl (ld_part (k := 4) m0_0.row rfl rfl rfl)) (okc (lv_load (v := .agg _) rfl rfl (ld_part (k := 0) m0_0.row rfl rfl rfl)) okn))), ?_⟩
        refine xp_heavy (i := 9) (by kernel_rfl) ?_
        refine xph_store rfl rfl rfl (hv_storeA (vs := [.int _ _, .int _ _, .int _ _, .int _ _]) rfl rfl rfl (m1_6) rfl (by rfl) rfl) (pk (by kernel_rfl) (pk (by kernel_rfl) (pd (by kernel_rfl) pn))) ?_
        rintro v1_9 H1_9 ⟨hU1_9, hZ1_9⟩
        have m0_0 := m0_0.off hU1_9.but (by first | exact nm0_0_1_6 | exact ⟨m0_0.ne m1_6 rfl⟩ | exact ⟨m0_0.ne m1_6 (by assumption)⟩ | exact ⟨Ne.symm (m1_6.ne m0_0 (by assumption))⟩)
        have m1_7 := m1_7.off hU1_9.but (by first | exact nm1_6_1_7.symm | exact ⟨m1_7.ne m1_6 rfl⟩ | exact ⟨m1_7.ne m1_6 (by assumption)⟩ | exact ⟨Ne.symm (m1_6.ne m1_7 (by assumption))⟩)
        have m1_8 := m1_8.off hU1_9.but (by first | exact nm1_6_1_8.symm | exact ⟨m1_8.ne m1_6 rfl⟩ | exact ⟨m1_8.ne m1_6 (by assumption)⟩ | exact ⟨Ne.symm (m1_6.ne m1_8 (by assumption))⟩)
        have hX := hX.upd hU1_9.but gb1_6
        have m1_6 := hU1_9.blk
        refine ⟨(okc (lv_load (v := .agg _) rfl rfl (ld_part (k := 8) m0_0.row rfl rfl rfl)) (okc (lv_load (v := .agg _) rfl rfl (ld_part (k := 4) m0_0.row rfl rfl rfl)) okn)), ?_⟩
        refine xp_heavy (i := 10) (by kernel_rfl) ?_
        refine xph_store rfl rfl rfl (hv_storeA (vs := [.int _ _, .int _ _, .int _ _, .int _ _]) rfl rfl rfl (m1_7) rfl (by rfl) rfl) (pk (by kernel_rfl) (pd (by kernel_rfl) pn)) ?_
        rintro v1_10 H1_10 ⟨hU1_10, hZ1_10⟩
        have m0_0 := m0_0.off hU1_10.but (by first | exact nm0_0_1_7 | exact ⟨m0_0.ne m1_7 rfl⟩ | exact ⟨m0_0.ne m1_7 (by assumption)⟩ | exact ⟨Ne.symm (m1_7.ne m0_0 (by assumption))⟩)
        have m1_6 := m1_6.off hU1_10.but (by first | exact nm1_6_1_7 | exact ⟨m1_6.ne m1_7 rfl⟩ | exact ⟨m1_6.ne m1_7 (by assumption)⟩ | exact ⟨Ne.symm (m1_7.ne m1_6 (by assumption))⟩)
        have m1_8 := m1_8.off hU1_10.but (by first | exact nm1_7_1_8.symm | exact ⟨m1_8.ne m1_7 rfl⟩ | exact ⟨m1_8.ne m1_7 (by assumption)⟩ | exact ⟨Ne.symm (m1_7.ne m1_8 (by assumption))⟩)
        have hX := hX.upd hU1_10.but gb1_7
        have m1_7 := hU1_10.blk
        refine ⟨(okc (lv_load (v := .agg _) rfl rfl (ld_part (k := 8) m0_0.row rfl rfl rfl)) okn), ?_⟩
        refine xp_heavy (i := 11) (by kernel_rfl) ?_
        refine xph_store rfl rfl rfl (hv_storeA (vs := [.int _ _, .int _ _, .int _ _, .int _ _]) rfl rfl rfl (m1_8) rfl (by rfl) rfl) (pd (by kernel_rfl) pn) ?_
        rintro v1_11 H1_11 ⟨hU1_11, hZ1_11⟩
        have m0_0 := m0_0.off hU1_11.but (by first | exact nm0_0_1_8 | exact ⟨m0_0.ne m1_8 rfl⟩ | exact ⟨m0_0.ne m1_8 (by assumption)⟩ | exact ⟨Ne.symm (m1_8.ne m0_0 (by assumption))⟩)
        have m1_6 := m1_6.off hU1_11.but (by first | exact nm1_6_1_8 | exact ⟨m1_6.ne m1_8 rfl⟩ | exact ⟨m1_6.ne m1_8 (by assumption)⟩ | exact ⟨Ne.symm (m1_8.ne m1_6 (by assumption))⟩)
        have m1_7 := m1_7.off hU1_11.but (by first | exact nm1_7_1_8 | exact ⟨m1_7.ne m1_8 rfl⟩ | exact ⟨m1_7.ne m1_8 (by assumption)⟩ | exact ⟨Ne.symm (m1_8.ne m1_7 (by assumption))⟩)
        have hX := hX.upd hU1_11.but gb1_8
        have m1_8 := hU1_11.blk
        refine ⟨okn, ?_⟩
        refine xp_done (by kernel_rfl) ?_
        refine xthen_normal ?_
        exact ⟨(_, _, _), ⟨rfl, rfl, rfl, trivial⟩, ⟨m1_6, m1_7, m1_8, hX⟩⟩
      · skip
        refine xph_val rfl rfl rfl rfl (hv_alloc rfl rfl) (pk (by kernel_rfl) (pk (by kernel_rfl) (pk (by kernel_rfl) pn))) ?_
        rintro v1_8 H1_8 ⟨b1_8, rfl, hN1_8⟩
        have gb1_8 := hX.fresh hN1_8
        have nm0_0_1_8 := m0_0.apart hN1_8
        have nm1_6_1_8 := m1_6.apart hN1_8
        have m0_0 := m0_0.ext hN1_8.ext
        have m1_6 := m1_6.ext hN1_8.ext
        have hX := hX.trans hN1_8.ext
        have m1_8 := hN1_8.blk
        refine ⟨(okc (lv_load (v := .agg _) rfl rfl (ld_part (k := 8) m0_0.row rfl rfl rfl)) (okc (lv_load (v := .agg _) rfl rfl (ld_part (k := 4) m0_0.row rfl rfl rfl)) (okc (lv_load (v := .agg _) rfl rfl (ld_part (k := 0) m0_0.row rfl rfl rfl)) okn))), ?_⟩
        refine xp_heavy (i := 7) (by kernel_rfl) ?_
        refine xph_val rfl rfl rfl rfl (hv_alloc rfl rfl) (pk (by kernel_rfl) (pk (by kernel_rfl) (pk (by kernel_rfl) pn))) ?_
        rintro v1_7 H1_7 ⟨b1_7, rfl, hN1_7⟩
        have gb1_7 := hX.fresh hN1_7
        have nm0_0_1_7 := m0_0.apart hN1_7
        have nm1_6_1_7 := m1_6.apart hN1_7
        have nm1_8_1_7 := m1_8.apart hN1_7
        have m0_0 := m0_0.ext hN1_7.ext
        have m1_6 := m1_6.ext hN1_7.ext
        have m1_8 := m1_8.ext hN1_7.ext
        have hX := hX.trans hN1_7.ext
        have m1_7 := hN1_7.blk
        refine ⟨(okc (lv_load (v := .agg _) rfl rfl (ld_part (k := 8) m0_0.row rfl rfl rfl)) (okc (lv_load (v := .agg _) rfl rfl (ld_part (k := 4) m0_0.row rfl rfl rfl)) (okc (lv_load (v := .agg _) rfl rfl (ld_part (k := 0) m0_0.row rfl rfl rfl)) okn))), ?_⟩
        refine xp_heavy (i := 9) (by kernel_rfl) ?_
        refine xph_store rfl rfl rfl (hv_storeA (vs := [.int _ _, .int _ _, .int _ _, .int _ _]) rfl rfl rfl (m1_6) rfl (by rfl) rfl) (pk (by kernel_rfl) (pk (by kernel_rfl) (pd (by kernel_rfl) pn))) ?_
        rintro v1_9 H1_9 ⟨hU1_9, hZ1_9⟩
        have m0_0 := m0_0.off hU1_9.but (by first | exact nm0_0_1_6 | exact ⟨m0_0.ne m1_6 rfl⟩ | exact ⟨m0_0.ne m1_6 (by assumption)⟩ | exact ⟨Ne.symm (m1_6.ne m0_0 (by assumption))⟩)
        have m1_8 := m1_8.off hU1_9.but (by first | exact nm1_6_1_8.symm | exact ⟨m1_8.ne m1_6 rfl⟩ | exact ⟨m1_8.ne m1_6 (by assumption)⟩ | exact ⟨Ne.symm (m1_6.ne m1_8 (by assumption))⟩)
        have m1_7 := m1_7.off hU1_9.but (by first | exact nm1_6_1_7.symm | exact ⟨m1_7.ne m1_6 rfl⟩ | exact ⟨m1_7.ne m1_6 (by assumption)⟩ | exact ⟨Ne.symm (m1_6.ne m1_7 (by assumption))⟩)
        have hX := hX.upd hU1_9.but gb1_6
        have m1_6 := hU1_9.blk
        refine ⟨(okc (lv_load (v := .agg _) rfl rfl (ld_part (k := 8) m0_0.row rfl rfl rfl)) (okc (lv_load (v := .agg _) rfl rfl (ld_part (k := 4) m0_0.row rfl rfl rfl)) okn)), ?_⟩
        refine xp_heavy (i := 10) (by kernel_rfl) ?_
        refine xph_store rfl rfl rfl (hv_storeA (vs := [.int _ _, .int _ _, .int _ _, .int _ _]) rfl rfl rfl (m1_7) rfl (by rfl) rfl) (pk (by kernel_rfl) (pd (by kernel_rfl) pn)) ?_
        rintro v1_10 H1_10 ⟨hU1_10, hZ1_10⟩
        have m0_0 := m0_0.off hU1_10.but (by first | exact nm0_0_1_7 | exact ⟨m0_0.ne m1_7 rfl⟩ | exact ⟨m0_0.ne m1_7 (by assumption)⟩ | exact ⟨Ne.symm (m1_7.ne m0_0 (by assumption))⟩)
        have m1_6 := m1_6.off hU1_10.but (by first | exact nm1_6_1_7 | exact ⟨m1_6.ne m1_7 rfl⟩ | exact ⟨m1_6.ne m1_7 (by assumption)⟩ | exact ⟨Ne.symm (m1_7.ne m1_6 (by assumption))⟩)
        have m1_8 := m1_8.off hU1_10.but (by first | exact nm1_8_1_7 | exact ⟨m1_8.ne m1_7 rfl⟩ | exact ⟨m1_8.ne m1_7 (by assumption)⟩ | exact ⟨Ne.symm (m1_7.ne m1_8 (by assumption))⟩)
        have hX := hX.upd hU1_10.but gb1_7
        have m1_7 := hU1_10.blk
        refine ⟨(okc (lv_load (v := .agg _) rfl rfl (ld_part (k := 8) m0_0.row rfl rfl rfl)) okn), ?_⟩
        refine xp_heavy (i := 11) (by kernel_rfl) ?_
        refine xph_store rfl rfl rfl (hv_storeA (vs := [.int _ _, .int _ _, .int _ _, .int _ _]) rfl rfl rfl (m1_8) rfl (by rfl) rfl) (pd (by kernel_rfl) pn) ?_
        rintro v1_11 H1_11 ⟨hU1_11, hZ1_11⟩
        have m0_0 := m0_0.off hU1_11.but (by first | exact nm0_0_1_8 | exact ⟨m0_0.ne m1_8 rfl⟩ | exact ⟨m0_0.ne m1_8 (by assumption)⟩ | exact ⟨Ne.symm (m1_8.ne m0_0 (by assumption))⟩)
        have m1_6 := m1_6.off hU1_11.but (by first | exact nm1_6_1_8 | exact ⟨m1_6.ne m1_8 rfl⟩ | exact ⟨m1_6.ne m1_8 (by assumption)⟩ | exact ⟨Ne.symm (m1_8.ne m1_6 (by assumption))⟩)
        have m1_7 := m1_7.off hU1_11.but (by first | exact nm1_8_1_7.symm | exact ⟨m1_7.ne m1_8 rfl⟩ | exact ⟨m1_7.ne m1_8 (by assumption)⟩ | exact ⟨Ne.symm (m1_8.ne m1_7 (by assumption))⟩)
        have hX := hX.upd hU1_11.but gb1_8
        have m1_8 := hU1_11.blk
        refine ⟨okn, ?_⟩
        refine xp_done (by kernel_rfl) ?_
        refine xthen_normal ?_
        exact ⟨(_, _, _), ⟨rfl, rfl, rfl, trivial⟩, ⟨m1_6, m1_7, m1_8, hX⟩⟩
    · skip
      refine xph_val rfl rfl rfl rfl (hv_alloc rfl rfl) (pk (by kernel_rfl) (pk (by kernel_rfl) (pk (by kernel_rfl) pn))) ?_
      rintro v1_7 H1_7 ⟨b1_7, rfl, hN1_7⟩
      have gb1_7 := hX.fresh hN1_7
      have nm0_0_1_7 := m0_0.apart hN1_7
      have m0_0 := m0_0.ext hN1_7.ext
      have hX := hX.trans hN1_7.ext
      have m1_7 := hN1_7.blk
      refine ⟨(okc (lv_load (v := .agg _) rfl rfl (ld_part (k := 8) m0_0.row rfl rfl rfl)) (okc (lv_load (v := .agg _) rfl rfl (ld_part (k := 4) m0_0.row rfl rfl rfl)) (okc (lv_load (v := .agg _) rfl rfl (ld_part (k := 0) m0_0.row rfl rfl rfl)) okn))), ?_⟩
      refine xp_heavy2 (i := 6) (j := 8) (by kernel_rfl) ?_ ?_
      · skip
        refine xph_val rfl rfl rfl rfl (hv_alloc rfl rfl) (pk (by kernel_rfl) (pk (by kernel_rfl) (pk (by kernel_rfl) pn))) ?_
        rintro v1_6 H1_6 ⟨b1_6, rfl, hN1_6⟩
        have gb1_6 := hX.fresh hN1_6
        have nm0_0_1_6 := m0_0.apart hN1_6
        have nm1_7_1_6 := m1_7.apart hN1_6
        have m0_0 := m0_0.ext hN1_6.ext
        have m1_7 := m1_7.ext hN1_6.ext
        have hX := hX.trans hN1_6.ext
        have m1_6 := hN1_6.blk
        refine ⟨(okc (lv_load (v := .agg _) rfl rfl (ld_part (k := 8) m0_0.row rfl rfl rfl)) (okc (lv_load (v := .agg _) rfl rfl (ld_part (k := 4) m0_0.row rfl rfl rfl)) (okc (lv_load (v := .agg _) rfl rfl (ld_part (k := 0) m0_0.row rfl rfl rfl)) okn))), ?_⟩
        refine xp_heavy (i := 8) (by kernel_rfl) ?_
        refine xph_val rfl rfl rfl rfl (hv_alloc rfl rfl) (pk (by kernel_rfl) (pk (by kernel_rfl) (pk (by kernel_rfl) pn))) ?_
        rintro v1_8 H1_8 ⟨b1_8, rfl, hN1_8⟩
        have gb1_8 := hX.fresh hN1_8
        have nm0_0_1_8 := m0_0.apart hN1_8
        have nm1_7_1_8 := m1_7.apart hN1_8
        have nm1_6_1_8 := m1_6.apart hN1_8
        have m0_0 := m0_0.ext hN1_8.ext
        have m1_7 := m1_7.ext hN1_8.ext
        have m1_6 := m1_6.ext hN1_8.ext
        have hX := hX.trans hN1_8.ext
        have m1_8 := hN1_8.blk
        refine ⟨(okc (lv_load (v := .agg _) rfl rfl (ld_part (k := 8) m0_0.row rfl rfl rfl)) (okc (lv_load (v := .agg _) rfl rfl (ld_part (k := 4) m0_0.row rfl rfl rfl)) (okc (lv_load (v := .agg _) rfl rfl (ld_part (k := 0) m0_0.row rfl rfl rfl)) okn))), ?_⟩
        refine xp_heavy (i := 9) (by kernel_rfl) ?_
        refine xph_store rfl rfl rfl (hv_storeA (vs := [.int _ _, .int _ _, .int _ _, .int _ _]) rfl rfl rfl (m1_6) rfl (by rfl) rfl) (pk (by kernel_rfl) (pk (by kernel_rfl) (pd (by kernel_rfl) pn))) ?_
        rintro v1_9 H1_9 ⟨hU1_9, hZ1_9⟩
        have m0_0 := m0_0.off hU1_9.but (by first | exact nm0_0_1_6 | exact ⟨m0_0.ne m1_6 rfl⟩ | exact ⟨m0_0.ne m1_6 (by assumption)⟩ | exact ⟨Ne.symm (m1_6.ne m0_0 (by assumption))⟩)
        have m1_7 := m1_7.off hU1_9.but (by first | exact nm1_7_1_6 | exact ⟨m1_7.ne m1_6 rfl⟩ | exact ⟨m1_7.ne m1_6 (by assumption)⟩ | exact ⟨Ne.symm (m1_6.ne m1_7 (by assumption))⟩)
        have m1_8 := m1_8.off hU1_9.but (by first | exact nm1_6_1_8.symm | exact ⟨m1_8.ne m1_6 rfl⟩ | exact ⟨m1_8.ne m1_6 (by assumption)⟩ | exact ⟨Ne.symm (m1_6.ne m1_8 (by assumption))⟩)
        have hX := hX.upd hU1_9.but gb1_6
        have m1_6 := hU1_9.blk
        refine ⟨(okc (lv_load (v := .agg _) rfl rfl (ld_part (k := 8) m0_0.row rfl rfl rfl)) (okc (lv_load (v := .agg _) rfl rfl (ld_part (k := 4) m0_0.row rfl rfl rfl)) okn)), ?_⟩
        refine xp_heavy (i := 10) (by kernel_rfl) ?_
        refine xph_store rfl rfl rfl (hv_storeA (vs := [.int _ _, .int _ _, .int _ _, .int _ _]) rfl rfl rfl (m1_7) rfl (by rfl) rfl) (pk (by kernel_rfl) (pd (by kernel_rfl) pn)) ?_
        rintro v1_10 H1_10 ⟨hU1_10, hZ1_10⟩
        have m0_0 := m0_0.off hU1_10.but (by first | exact nm0_0_1_7 | exact ⟨m0_0.ne m1_7 rfl⟩ | exact ⟨m0_0.ne m1_7 (by assumption)⟩ | exact ⟨Ne.symm (m1_7.ne m0_0 (by assumption))⟩)
        have m1_6 := m1_6.off hU1_10.but (by first | exact nm1_7_1_6.symm | exact ⟨m1_6.ne m1_7 rfl⟩ | exact ⟨m1_6.ne m1_7 (by assumption)⟩ | exact ⟨Ne.symm (m1_7.ne m1_6 (by assumption))⟩)
        have m1_8 := m1_8.off hU1_10.but (by first | exact nm1_7_1_8.symm | exact ⟨m1_8.ne m1_7 rfl⟩ | exact ⟨m1_8.ne m1_7 (by assumption)⟩ | exact ⟨Ne.symm (m1_7.ne m1_8 (by assumption))⟩)
        have hX := hX.upd hU1_10.but gb1_7
        have m1_7 := hU1_10.blk
        refine ⟨(okc (lv_load (v := .agg _) rfl rfl (ld_part (k := 8) m0_0.row rfl rfl rfl)) okn), ?_⟩
        refine xp_heavy (i := 11) (by kernel_rfl) ?_
        refine xph_store rfl rfl rfl (hv_storeA (vs := [.int _ _, .int _ _, .int _ _, .int _ _]) rfl rfl rfl (m1_8) rfl (by rfl) rfl) (pd (by kernel_rfl) pn) ?_
        rintro v1_11 H1_11 ⟨hU1_11, hZ1_11⟩
        have m0_0 := m0_0.off hU1_11.but (by first | exact nm0_0_1_8 | exact ⟨m0_0.ne m1_8 rfl⟩ | exact ⟨m0_0.ne m1_8 (by assumption)⟩ | exact ⟨Ne.symm (m1_8.ne m0_0 (by assumption))⟩)
        have m1_7 := m1_7.off hU1_11.but (by first | exact nm1_7_1_8 | exact ⟨m1_7.ne m1_8 rfl⟩ | exact ⟨m1_7.ne m1_8 (by assumption)⟩ | exact ⟨Ne.symm (m1_8.ne m1_7 (by assumption))⟩)
        have m1_6 := m1_6.off hU1_11.but (by first | exact nm1_6_1_8 | exact ⟨m1_6.ne m1_8 rfl⟩ | exact ⟨m1_6.ne m1_8 (by assumption)⟩ | exact ⟨Ne.symm (m1_8.ne m1_6 (by assumption))⟩)
        have hX := hX.upd hU1_11.but gb1_8
        have m1_8 := hU1_11.blk
        refine ⟨okn, ?_⟩
        refine xp_done (by kernel_rfl) ?_
        refine xthen_normal ?_
        exact ⟨(_, _, _), ⟨rfl, rfl, rfl, trivial⟩, ⟨m1_6, m1_7, m1_8, hX⟩⟩
      · skip
        refine xph_val rfl rfl rfl rfl (hv_alloc rfl rfl) (pk (by kernel_rfl) (pk (by kernel_rfl) (pk (by kernel_rfl) pn))) ?_
        rintro v1_8 H1_8 ⟨b1_8, rfl, hN1_8⟩
        have gb1_8 := hX.fresh hN1_8
        have nm0_0_1_8 := m0_0.apart hN1_8
        have nm1_7_1_8 := m1_7.apart hN1_8
        have m0_0 := m0_0.ext hN1_8.ext
        have m1_7 := m1_7.ext hN1_8.ext
        have hX := hX.trans hN1_8.ext
        have m1_8 := hN1_8.blk
        refine ⟨(okc (lv_load (v := .agg _) rfl rfl (ld_part (k := 8) m0_0.row rfl rfl rfl)) (okc (lv_load (v := .agg _) rfl rfl (ld_part (k := 4) m0_0.row rfl rfl rfl)) (okc (lv_load (v := .agg _) rfl rfl (ld_part (k := 0) m0_0.row rfl rfl rfl)) okn))), ?_⟩
        refine xp_heavy (i := 6) (by kernel_rfl) ?_
        refine xph_val rfl rfl rfl rfl (hv_alloc rfl rfl) (pk (by kernel_rfl) (pk (by kernel_rfl) (pk (by kernel_rfl) pn))) ?_
        rintro v1_6 H1_6 ⟨b1_6, rfl, hN1_6⟩
        have gb1_6 := hX.fresh hN1_6
        have nm0_0_1_6 := m0_0.apart hN1_6
        have nm1_7_1_6 := m1_7.apart hN1_6
        have nm1_8_1_6 := m1_8.apart hN1_6
        have m0_0 := m0_0.ext hN1_6.ext
        have m1_7 := m1_7.ext hN1_6.ext
        have m1_8 := m1_8.ext hN1_6.ext
        have hX := hX.trans hN1_6.ext
        have m1_6 := hN1_6.blk
        refine ⟨(okc (lv_load (v := .agg _) rfl rfl (ld_part (k := 8) m0_0.row rfl rfl rfl)) (okc (lv_load (v := .agg _) rfl rfl (ld_part (k := 4) m0_0.row rfl rfl rfl)) (okc (lv_load (v := .agg _) rfl rfl (ld_part (k := 0) m0_0.row rfl rfl rfl)) okn))), ?_⟩
        refine xp_heavy (i := 9) (by kernel_rfl) ?_
        refine xph_store rfl rfl rfl (hv_storeA (vs := [.int _ _, .int _ _, .int _ _, .int _ _]) rfl rfl rfl (m1_6) rfl (by rfl) rfl) (pk (by kernel_rfl) (pk (by kernel_rfl) (pd (by kernel_rfl) pn))) ?_
        rintro v1_9 H1_9 ⟨hU1_9, hZ1_9⟩
        have m0_0 := m0_0.off hU1_9.but (by first | exact nm0_0_1_6 | exact ⟨m0_0.ne m1_6 rfl⟩ | exact ⟨m0_0.ne m1_6 (by assumption)⟩ | exact ⟨Ne.symm (m1_6.ne m0_0 (by assumption))⟩)
        have m1_7 := m1_7.off hU1_9.but (by first | exact nm1_7_1_6 | exact ⟨m1_7.ne m1_6 rfl⟩ | exact ⟨m1_7.ne m1_6 (by assumption)⟩ | exact ⟨Ne.symm (m1_6.ne m1_7 (by assumption))⟩)
        have m1_8 := m1_8.off hU1_9.but (by first | exact nm1_8_1_6 | exact ⟨m1_8.ne m1_6 rfl⟩ | exact ⟨m1_8.ne m1_6 (by assumption)⟩ | exact ⟨Ne.symm (m1_6.ne m1_8 (by assumption))⟩)
        have hX := hX.upd hU1_9.but gb1_6
        have m1_6 := hU1_9.blk
        refine ⟨(okc (lv_load (v := .agg _) rfl rfl (ld_part (k := 8) m0_0.row rfl rfl rfl)) (okc (lv_load (v := .agg _) rfl rfl (ld_part (k := 4) m0_0.row rfl rfl rfl)) okn)), ?_⟩
        refine xp_heavy (i := 10) (by kernel_rfl) ?_
        refine xph_store rfl rfl rfl (hv_storeA (vs := [.int _ _, .int _ _, .int _ _, .int _ _]) rfl rfl rfl (m1_7) rfl (by rfl) rfl) (pk (by kernel_rfl) (pd (by kernel_rfl) pn)) ?_
        rintro v1_10 H1_10 ⟨hU1_10, hZ1_10⟩
        have m0_0 := m0_0.off hU1_10.but (by first | exact nm0_0_1_7 | exact ⟨m0_0.ne m1_7 rfl⟩ | exact ⟨m0_0.ne m1_7 (by assumption)⟩ | exact ⟨Ne.symm (m1_7.ne m0_0 (by assumption))⟩)
        have m1_8 := m1_8.off hU1_10.but (by first | exact nm1_7_1_8.symm | exact ⟨m1_8.ne m1_7 rfl⟩ | exact ⟨m1_8.ne m1_7 (by assumption)⟩ | exact ⟨Ne.symm (m1_7.ne m1_8 (by assumption))⟩)
        have m1_6 := m1_6.off hU1_10.but (by first | exact nm1_7_1_6.symm | exact ⟨m1_6.ne m1_7 rfl⟩ | exact ⟨m1_6.ne m1_7 (by assumption)⟩ | exact ⟨Ne.symm (m1_7.ne m1_6 (by assumption))⟩)
        have hX := hX.upd hU1_10.but gb1_7
        have m1_7 := hU1_10.blk
        refine ⟨(okc (lv_load (v := .agg _) rfl rfl (ld_part (k := 8) m0_0.row rfl rfl rfl)) okn), ?_⟩
        refine xp_heavy (i := 11) (by kernel_rfl) ?_
        refine xph_store rfl rfl rfl (hv_storeA (vs := [.int _ _, .int _ _, .int _ _, .int _ _]) rfl rfl rfl (m1_8) rfl (by rfl) rfl) (pd (by kernel_rfl) pn) ?_
        rintro v1_11 H1_11 ⟨hU1_11, hZ1_11⟩
        have m0_0 := m0_0.off hU1_11.but (by first | exact nm0_0_1_8 | exact ⟨m0_0.ne m1_8 rfl⟩ | exact ⟨m0_0.ne m1_8 (by assumption)⟩ | exact ⟨Ne.symm (m1_8.ne m0_0 (by assumption))⟩)
        have m1_7 := m1_7.off hU1_11.but (by first | exact nm1_7_1_8 | exact ⟨m1_7.ne m1_8 rfl⟩ | exact ⟨m1_7.ne m1_8 (by assumption)⟩ | exact ⟨Ne.symm (m1_8.ne m1_7 (by assumption))⟩)
        have m1_6 := m1_6.off hU1_11.but (by first | exact nm1_8_1_6.symm | exact ⟨m1_6.ne m1_8 rfl⟩ | exact ⟨m1_6.ne m1_8 (by assumption)⟩ | exact ⟨Ne.symm (m1_8.ne m1_6 (by assumption))⟩)
        have hX := hX.upd hU1_11.but gb1_8
        have m1_8 := hU1_11.blk
        refine ⟨okn, ?_⟩
        refine xp_done (by kernel_rfl) ?_
        refine xthen_normal ?_
        exact ⟨(_, _, _), ⟨rfl, rfl, rfl, trivial⟩, ⟨m1_6, m1_7, m1_8, hX⟩⟩
    · skip
      refine xph_val rfl rfl rfl rfl (hv_alloc rfl rfl) (pk (by kernel_rfl) (pk (by kernel_rfl) (pk (by kernel_rfl) pn))) ?_
      rintro v1_8 H1_8 ⟨b1_8, rfl, hN1_8⟩
      have gb1_8 := hX.fresh hN1_8
      have nm0_0_1_8 := m0_0.apart hN1_8
      have m0_0 := m0_0.ext hN1_8.ext
      have hX := hX.trans hN1_8.ext
      have m1_8 := hN1_8.blk
      refine ⟨(okc (lv_load (v := .agg _) rfl rfl (ld_part (k := 8) m0_0.row rfl rfl rfl)) (okc (lv_load (v := .agg _) rfl rfl (ld_part (k := 4) m0_0.row rfl rfl rfl)) (okc (lv_load (v := .agg _) rfl rfl (ld_part (k := 0) m0_0.row rfl rfl rfl)) okn))), ?_⟩
      refine xp_heavy2 (i := 6) (j := 7) (by kernel_rfl) ?_ ?_
      · skip
        refine xph_val rfl rfl rfl rfl (hv_alloc rfl rfl) (pk (by kernel_rfl) (pk (by kernel_rfl) (pk (by kernel_rfl) pn))) ?_
        rintro v1_6 H1_6 ⟨b1_6, rfl, hN1_6⟩
        have gb1_6 := hX.fresh hN1_6
        have nm0_0_1_6 := m0_0.apart hN1_6
        have nm1_8_1_6 := m1_8.apart hN1_6
        have m0_0 := m0_0.ext hN1_6.ext
        have m1_8 := m1_8.ext hN1_6.ext
        have hX := hX.trans hN1_6.ext
        have m1_6 := hN1_6.blk
        refine ⟨(okc (lv_load (v := .agg _) rfl rfl (ld_part (k := 8) m0_0.row rfl rfl rfl)) (okc (lv_load (v := .agg _) rfl rfl (ld_part (k := 4) m0_0.row rfl rfl rfl)) (okc (lv_load (v := .agg _) rfl rfl (ld_part (k := 0) m0_0.row rfl rfl rfl)) okn))), ?_⟩
        refine xp_heavy (i := 7) (by kernel_rfl) ?_
        refine xph_val rfl rfl rfl rfl (hv_alloc rfl rfl) (pk (by kernel_rfl) (pk (by kernel_rfl) (pk (by kernel_rfl) pn))) ?_
        rintro v1_7 H1_7 ⟨b1_7, rfl, hN1_7⟩
        have gb1_7 := hX.fresh hN1_7
        have nm0_0_1_7 := m0_0.apart hN1_7
        have nm1_8_1_7 := m1_8.apart hN1_7
        have nm1_6_1_7 := m1_6.apart hN1_7
        have m0_0 := m0_0.ext hN1_7.ext
        have m1_8 := m1_8.ext hN1_7.ext
        have m1_6 := m1_6.ext hN1_7.ext
        have hX := hX.trans hN1_7.ext
        have m1_7 := hN1_7.blk
        refine ⟨(okc (lv_load (v := .agg _) rfl rfl (ld_part (k := 8) m0_0.row rfl rfl rfl)) (okc (lv_load (v := .agg _) rfl rfl (ld_part (k := 4) m0_0.row rfl rfl rfl)) (okc (lv_load (v := .agg _) rfl rfl (ld_part (k := 0) m0_0.row rfl rfl rfl)) okn))), ?_⟩
        refine xp_heavy (i := 9) (by kernel_rfl) ?_
        refine xph_store rfl rfl rfl (hv_storeA (vs := [.int _ _, .int _ _, .int _ _, .int _ _]) rfl rfl rfl (m1_6) rfl (by rfl) rfl) (pk (by kernel_rfl) (pk (by kernel_rfl) (pd (by kernel_rfl) pn))) ?_
        rintro v1_9 H1_9 ⟨hU1_9, hZ1_9⟩
        have m0_0 := m0_0.off hU1_9.but (by first | exact nm0_0_1_6 | exact ⟨m0_0.ne m1_6 rfl⟩ | exact ⟨m0_0.ne m1_6 (by assumption)⟩ | exact ⟨Ne.symm (m1_6.ne m0_0 (by assumption))⟩)
        have m1_8 := m1_8.off hU1_9.but (by first | exact nm1_8_1_6 | exact ⟨m1_8.ne m1_6 rfl⟩ | exact ⟨m1_8.ne m1_6 (by assumption)⟩ | exact ⟨Ne.symm (m1_6.ne m1_8 (by assumption))⟩)
        have m1_7 := m1_7.off hU1_9.but (by first | exact nm1_6_1_7.symm | exact ⟨m1_7.ne m1_6 rfl⟩ | exact ⟨m1_7.ne m1_6 (by assumption)⟩ | exact ⟨Ne.symm (m1_6.ne m1_7 (by assumption))⟩)
        have hX := hX.upd hU1_9.but gb1_6
        have m1_6 := hU1_9.blk
        refine ⟨(okc (lv_load (v := .agg _) rfl rfl (ld_part (k := 8) m0_0.row rfl rfl rfl)) (okc (lv_load (v := .agg _) rfl rfl (ld_part (k := 4) m0_0.row rfl rfl rfl)) okn)), ?_⟩
        refine xp_heavy (i := 10) (by kernel_rfl) ?_
        refine xph_store rfl rfl rfl (hv_storeA (vs := [.int _ _, .int _ _, .int _ _, .int _ _]) rfl rfl rfl (m1_7) rfl (by rfl) rfl) (pk (by kernel_rfl) (pd (by kernel_rfl) pn)) ?_
        rintro v1_10 H1_10 ⟨hU1_10, hZ1_10⟩
        have m0_0 := m0_0.off hU1_10.but (by first | exact nm0_0_1_7 | exact ⟨m0_0.ne m1_7 rfl⟩ | exact ⟨m0_0.ne m1_7 (by assumption)⟩ | exact ⟨Ne.symm (m1_7.ne m0_0 (by assumption))⟩)
        have m1_8 := m1_8.off hU1_10.but (by first | exact nm1_8_1_7 | exact ⟨m1_8.ne m1_7 rfl⟩ | exact ⟨m1_8.ne m1_7 (by assumption)⟩ | exact ⟨Ne.symm (m1_7.ne m1_8 (by assumption))⟩)
        have m1_6 := m1_6.off hU1_10.but (by first | exact nm1_6_1_7 | exact ⟨m1_6.ne m1_7 rfl⟩ | exact ⟨m1_6.ne m1_7 (by assumption)⟩ | exact ⟨Ne.symm (m1_7.ne m1_6 (by assumption))⟩)
        have hX := hX.upd hU1_10.but gb1_7
        have m1_7 := hU1_10.blk
        refine ⟨(okc (lv_load (v := .agg _) rfl rfl (ld_part (k := 8) m0_0.row rfl rfl rfl)) okn), ?_⟩
        refine xp_heavy (i := 11) (by kernel_rfl) ?_
        refine xph_store rfl rfl rfl (hv_storeA (vs := [.int _ _, .int _ _, .int _ _, .int _ _]) rfl rfl rfl (m1_8) rfl (by rfl) rfl) (pd (by kernel_rfl) pn) ?_
        rintro v1_11 H1_11 ⟨hU1_11, hZ1_11⟩
        have m0_0 := m0_0.off hU1_11.but (by first | exact nm0_0_1_8 | exact ⟨m0_0.ne m1_8 rfl⟩ | exact ⟨m0_0.ne m1_8 (by assumption)⟩ | exact ⟨Ne.symm (m1_8.ne m0_0 (by assumption))⟩)
        have m1_6 := m1_6.off hU1_11.but (by first | exact nm1_8_1_6.symm | exact ⟨m1_6.ne m1_8 rfl⟩ | exact ⟨m1_6.ne m1_8 (by assumption)⟩ | exact ⟨Ne.symm (m1_8.ne m1_6 (by assumption))⟩)
        have m1_7 := m1_7.off hU1_11.but (by first | exact nm1_8_1_7.symm | exact ⟨m1_7.ne m1_8 rfl⟩ | exact ⟨m1_7.ne m1_8 (by assumption)⟩ | exact ⟨Ne.symm (m1_8.ne m1_7 (by assumption))⟩)
        have hX := hX.upd hU1_11.but gb1_8
        have m1_8 := hU1_11.blk
        refine ⟨okn, ?_⟩
        refine xp_done (by kernel_rfl) ?_
        refine xthen_normal ?_
        exact ⟨(_, _, _), ⟨rfl, rfl, rfl, trivial⟩, ⟨m1_6, m1_7, m1_8, hX⟩⟩
      · skip
        refine xph_val rfl rfl rfl rfl (hv_alloc rfl rfl) (pk (by kernel_rfl) (pk (by kernel_rfl) (pk (by kernel_rfl) pn))) ?_
        rintro v1_7 H1_7 ⟨b1_7, rfl, hN1_7⟩
        have gb1_7 := hX.fresh hN1_7
        have nm0_0_1_7 := m0_0.apart hN1_7
        have nm1_8_1_7 := m1_8.apart hN1_7
        have m0_0 := m0_0.ext hN1_7.ext
        have m1_8 := m1_8.ext hN1_7.ext
        have hX := hX.trans hN1_7.ext
        have m1_7 := hN1_7.blk
        refine ⟨(okc (lv_load (v := .agg _) rfl rfl (ld_part (k := 8) m0_0.row rfl rfl rfl)) (okc (lv_load (v := .agg _) rfl rfl (ld_part (k := 4) m0_0.row rfl rfl rfl)) (okc (lv_load (v := .agg _) rfl rfl (ld_part (k := 0) m0_0.row rfl rfl rfl)) okn))), ?_⟩
        refine xp_heavy (i := 6) (by kernel_rfl) ?_
        refine xph_val rfl rfl rfl rfl (hv_alloc rfl rfl) (pk (by kernel_rfl) (pk (by kernel_rfl) (pk (by kernel_rfl) pn))) ?_
        rintro v1_6 H1_6 ⟨b1_6, rfl, hN1_6⟩
        have gb1_6 := hX.fresh hN1_6
        have nm0_0_1_6 := m0_0.apart hN1_6
        have nm1_8_1_6 := m1_8.apart hN1_6
        have nm1_7_1_6 := m1_7.apart hN1_6
        have m0_0 := m0_0.ext hN1_6.ext
        have m1_8 := m1_8.ext hN1_6.ext
        have m1_7 := m1_7.ext hN1_6.ext
        have hX := hX.trans hN1_6.ext
        have m1_6 := hN1_6.blk
        refine ⟨(okc (lv_load (v := .agg _) rfl rfl (ld_part (k := 8) m0_0.row rfl rfl rfl)) (okc (lv_load (v := .agg _) rfl rfl (ld_part (k := 4) m0_0.row rfl rfl rfl)) (okc (lv_load (v := .agg _) rfl rfl (ld_part (k := 0) m0_0.row rfl rfl rfl)) okn))), ?_⟩
        refine xp_heavy (i := 9) (by kernel_rfl) ?_
        refine xph_store rfl rfl rfl (hv_storeA (vs := [.int _ _, .int _ _, .int _ _, .int _ _]) rfl rfl rfl (m1_6) rfl (by rfl) rfl) (pk (by kernel_rfl) (pk (by kernel_rfl) (pd (by kernel_rfl) pn))) ?_
        rintro v1_9 H1_9 ⟨hU1_9, hZ1_9⟩
        have m0_0 := m0_0.off hU1_9.but (by first | exact nm0_0_1_6 | exact ⟨m0_0.ne m1_6 rfl⟩ | exact ⟨m0_0.ne m1_6 (by assumption)⟩ | exact ⟨Ne.symm (m1_6.ne m0_0 (by assumption))⟩)
        have m1_8 := m1_8.off hU1_9.but (by first | exact nm1_8_1_6 | exact ⟨m1_8.ne m1_6 rfl⟩ | exact ⟨m1_8.ne m1_6 (by assumption)⟩ | exact ⟨Ne.symm (m1_6.ne m1_8 (by assumption))⟩)
        have m1_7 := m1_7.off hU1_9.but (by first | exact nm1_7_1_6 | exact ⟨m1_7.ne m1_6 rfl⟩ | exact ⟨m1_7.ne m1_6 (by assumption)⟩ | exact ⟨Ne.symm (m1_6.ne m1_7 (by assumption))⟩)
        have hX := hX.upd hU1_9.but gb1_6
        have m1_6 := hU1_9.blk
        refine ⟨(okc (lv_load (v := .agg _) rfl rfl (ld_part (k := 8) m0_0.row rfl rfl rfl)) (okc (lv_load (v := .agg _) rfl rfl (ld_part (k := 4) m0_0.row rfl rfl rfl)) okn)), ?_⟩
        refine xp_heavy (i := 10) (by kernel_rfl) ?_
        refine xph_store rfl rfl rfl (hv_storeA (vs := [.int _ _, .int _ _, .int _ _, .int _ _]) rfl rfl rfl (m1_7) rfl (by rfl) rfl) (pk (by kernel_rfl) (pd (by kernel_rfl) pn)) ?_
        rintro v1_10 H1_10 ⟨hU1_10, hZ1_10⟩
        have m0_0 := m0_0.off hU1_10.but (by first | exact nm0_0_1_7 | exact ⟨m0_0.ne m1_7 rfl⟩ | exact ⟨m0_0.ne m1_7 (by assumption)⟩ | exact ⟨Ne.symm (m1_7.ne m0_0 (by assumption))⟩)
        have m1_8 := m1_8.off hU1_10.but (by first | exact nm1_8_1_7 | exact ⟨m1_8.ne m1_7 rfl⟩ | exact ⟨m1_8.ne m1_7 (by assumption)⟩ | exact ⟨Ne.symm (m1_7.ne m1_8 (by assumption))⟩)
        have m1_6 := m1_6.off hU1_10.but (by first | exact nm1_7_1_6.symm | exact ⟨m1_6.ne m1_7 rfl⟩ | exact ⟨m1_6.ne m1_7 (by assumption)⟩ | exact ⟨Ne.symm (m1_7.ne m1_6 (by assumption))⟩)
        have hX := hX.upd hU1_10.but gb1_7
        have m1_7 := hU1_10.blk
        refine ⟨(okc (lv_load (v := .agg _) rfl rfl (ld_part (k := 8) m0_0.row rfl rfl rfl)) okn), ?_⟩
        refine xp_heavy (i := 11) (by kernel_rfl) ?_
        refine xph_store rfl rfl rfl (hv_storeA (vs := [.int _ _, .int _ _, .int _ _, .int _ _]) rfl rfl rfl (m1_8) rfl (by rfl) rfl) (pd (by kernel_rfl) pn) ?_
        rintro v1_11 H1_11 ⟨hU1_11, hZ1_11⟩
        have m0_0 := m0_0.off hU1_11.but (by first | exact nm0_0_1_8 | exact ⟨m0_0.ne m1_8 rfl⟩ | exact ⟨m0_0.ne m1_8 (by assumption)⟩ | exact ⟨Ne.symm (m1_8.ne m0_0 (by assumption))⟩)
        have m1_7 := m1_7.off hU1_11.but (by first | exact nm1_8_1_7.symm | exact ⟨m1_7.ne m1_8 rfl⟩ | exact ⟨m1_7.ne m1_8 (by assumption)⟩ | exact ⟨Ne.symm (m1_8.ne m1_7 (by assumption))⟩)
        have m1_6 := m1_6.off hU1_11.but (by first | exact nm1_8_1_6.symm | exact ⟨m1_6.ne m1_8 rfl⟩ | exact ⟨m1_6.ne m1_8 (by assumption)⟩ | exact ⟨Ne.symm (m1_8.ne m1_6 (by assumption))⟩)
        have hX := hX.upd hU1_11.but gb1_8
        have m1_8 := hU1_11.blk
        refine ⟨okn, ?_⟩
        refine xp_done (by kernel_rfl) ?_
        refine xthen_normal ?_
        exact ⟨(_, _, _), ⟨rfl, rfl, rfl, trivial⟩, ⟨m1_6, m1_7, m1_8, hX⟩⟩
  · intro σ
    clear hX m0_0
    rintro ⟨ba, bb, bc⟩ Hm1 ⟨ma, mb, mc, hX⟩
    replace ma : Blk Hm1 ba (ints [x0, x1, x2, x3]) 23 := ma
    replace mb : Blk Hm1 bb (ints [x4, x5, x6, x7]) 23 := mb
    replace mc : Blk Hm1 bc (ints [x8, x9, x10, x11]) 23 := mc
    replace hX : Ext H Hm1 := hX
    show XC _ _ _ (upds σ [(3, .pointer (some ⟨ba, 0, none⟩)), (4, .pointer (some ⟨bb, 0, none⟩)), (5, .pointer (some ⟨bc, 0, none⟩))]) _
    refine xc_seq ?_
    refine xc_region ?_
    refine xl_light rfl rfl rfl (lv_load (v := .agg _) rfl rfl (ld_blk_a ma rfl rfl)) ?_
    refine xl_light rfl rfl rfl (lv_load (v := .agg _) rfl rfl (ld_blk_a mb rfl rfl)) ?_
    refine xl_heavy rfl rfl rfl (hv_call (g := 8) rfl rfl (c8 [x0, x1, x2, x3] [x4, x5, x6, x7] rfl rfl) rfl) ?_
    rintro v2_2 H2_2 ⟨rfl, hE2_2⟩
    have ma := ma.ext hE2_2
    have mb := mb.ext hE2_2
    have mc := mc.ext hE2_2
    have hX := hX.trans hE2_2
    refine xl_pure rfl rfl rfl (pv_assign (v := .int _ _) rfl rfl) ?_
    refine xl_nil ?_
    refine xthen_normal ?_
    refine xc_seq ?_
    refine xc_region ?_
    refine xl_light rfl rfl rfl (lv_load (v := .agg _) rfl rfl (ld_blk_a ma rfl rfl)) ?_
    refine xl_light rfl rfl rfl (lv_load (v := .agg _) rfl rfl (ld_blk_a mb rfl rfl)) ?_
    refine xl_heavy rfl rfl rfl (hv_call (g := 9) rfl rfl (c9 [x0, x1, x2, x3] [x4, x5, x6, x7] rfl rfl) rfl) ?_
    rintro v3_2 H3_2 ⟨rfl, hE3_2⟩
    have ma := ma.ext hE3_2
    have mb := mb.ext hE3_2
    have mc := mc.ext hE3_2
    have hX := hX.trans hE3_2
    refine xl_pure rfl rfl rfl (pv_assign (v := .int _ _) rfl rfl) ?_
    refine xl_nil ?_
    refine xthen_normal ?_
    refine xc_seq ?_
    refine xc_seq ?_
    refine xc_region ?_
    refine xl_pure rfl rfl rfl (pv_move (v := .int _ _) rfl rfl) ?_
    refine xl_dec rfl rfl rfl (pv_lss rfl rfl rfl) (fun h4_1 => ?_) (fun h4_1 => ?_)
    · skip
      refine xl_pure rfl rfl rfl (pv_move (v := .int _ _) rfl rfl) ?_
      refine xl_dec rfl rfl rfl (pv_lss rfl rfl rfl) (fun h4_3 => ?_) (fun h4_3 => ?_)
      · first
        | (exfalso; omega)
        |  (skip
            refine xl_pure rfl rfl rfl (pv_neq_b rfl rfl rfl) ?_
            refine xl_pure rfl rfl rfl (pv_move (v := .bool _) rfl rfl) ?_
            refine xl_pure rfl rfl rfl (pv_move (v := .int _ _) rfl rfl) ?_
            refine xl_dec rfl rfl rfl (pv_gtr rfl rfl rfl) (fun h4_7 => ?_) (fun h4_7 => ?_)
            · first
              | (exfalso; omega)
              |  (skip
                  refine xl_pure rfl rfl rfl (pv_move (v := .int _ _) rfl rfl) ?_
                  refine xl_dec rfl rfl rfl (pv_gtr rfl rfl rfl) (fun h4_9 => ?_) (fun h4_9 => ?_)
                  · first
                    | (exfalso; omega)
                    |  (skip
                        refine xl_pure rfl rfl rfl (pv_neq_b rfl rfl rfl) ?_
                        refine xl_pure rfl rfl rfl (pv_pick_f (v := .bool _) rfl rfl rfl) ?_
                        refine xl_pure rfl rfl rfl (pv_move (v := .bool _) rfl rfl) ?_
                        refine xl_light rfl rfl rfl (lv_load (v := .agg _) rfl rfl (ld_blk_a mb rfl rfl)) ?_
                        refine xl_light rfl rfl rfl (lv_load (v := .agg _) rfl rfl (ld_blk_a ma rfl rfl)) ?_
                        refine xl_heavy rfl rfl rfl (hv_call (g := 8) rfl rfl (c8 [x4, x5, x6, x7] [x0, x1, x2, x3] rfl rfl) rfl) ?_
                        rintro v4_15 H4_15 ⟨rfl, hE4_15⟩
                        have ma := ma.ext hE4_15
                        have mb := mb.ext hE4_15
                        have mc := mc.ext hE4_15
                        have hX := hX.trans hE4_15
                        refine xl_dec rfl rfl rfl (pv_lss rfl rfl rfl) (fun h4_16 => ?_) (fun h4_16 => ?_)
                        · first
                          | (exfalso; omega)
                          |  (skip
                              refine xl_pure rfl rfl rfl (pv_move (v := .int _ _) rfl rfl) ?_
                              refine xl_dec rfl rfl rfl (pv_gtr rfl rfl rfl) (fun h4_18 => ?_) (fun h4_18 => ?_)
                              · first
                                | (exfalso; omega)
                                |  (skip
                                    refine xl_pure rfl rfl rfl (pv_neq_b rfl rfl rfl) ?_
                                    refine xl_pure rfl rfl rfl (pv_pick_f (v := .bool _) rfl rfl rfl) ?_
                                    refine xl_nil ?_
                                    refine xthen_normal ?_
                                    refine xc_cond_f rfl ?_
                                    refine xc_skip ?_
                                    refine xthen_normal ?_
                                    refine xc_seq ?_
                                    refine xc_region ?_
                                    refine xl_pure rfl rfl rfl (pv_move (v := .int _ _) rfl rfl) ?_
                                    refine xl_dec rfl rfl rfl (pv_leq rfl rfl rfl) (fun h6_1 => ?_) (fun h6_1 => ?_)
                                    · skip
                                      refine xl_pure rfl rfl rfl (pv_move (v := .bool _) rfl rfl) ?_
                                      refine xl_light rfl rfl rfl (lv_load (v := .agg _) rfl rfl (ld_blk_a mb rfl rfl)) ?_
                                      refine xl_light rfl rfl rfl (lv_load (v := .agg _) rfl rfl (ld_blk_a mc rfl rfl)) ?_
                                      refine xl_heavy rfl rfl rfl (hv_call (g := 8) rfl rfl (c8 [x4, x5, x6, x7] [x8, x9, x10, x11] rfl rfl) rfl) ?_
                                      rintro v6_5 H6_5 ⟨rfl, hE6_5⟩
                                      have ma := ma.ext hE6_5
                                      have mb := mb.ext hE6_5
                                      have mc := mc.ext hE6_5
                                      have hX := hX.trans hE6_5
                                      refine xl_dec rfl rfl rfl (pv_leq rfl rfl rfl) (fun h6_6 => ?_) (fun h6_6 => ?_)
                                      · skip
                                        refine xl_pure rfl rfl rfl (pv_pick_t (v := .bool _) rfl rfl rfl) ?_
                                        refine xl_pure rfl rfl rfl (pv_move (v := .bool _) rfl rfl) ?_
                                        refine xl_light rfl rfl rfl (lv_load (v := .agg _) rfl rfl (ld_blk_a ma rfl rfl)) ?_
                                        refine xl_light rfl rfl rfl (lv_load (v := .agg _) rfl rfl (ld_blk_a mc rfl rfl)) ?_
                                        refine xl_heavy rfl rfl rfl (hv_call (g := 8) rfl rfl (c8 [x0, x1, x2, x3] [x8, x9, x10, x11] rfl rfl) rfl) ?_
                                        rintro v6_11 H6_11 ⟨rfl, hE6_11⟩
                                        have ma := ma.ext hE6_11
                                        have mb := mb.ext hE6_11
                                        have mc := mc.ext hE6_11
                                        have hX := hX.trans hE6_11
                                        refine xl_dec rfl rfl rfl (pv_gtr rfl rfl rfl) (fun h6_12 => ?_) (fun h6_12 => ?_)
                                        · exact absurd h6_12 (by have := (kcmp_trans (a := [x0, x1, x2, x3]) (b := [x4, x5, x6, x7]) (c := [x8, x9, x10, x11]) rfl rfl h6_1 h6_6).1; omega)
                                        · skip
                                          refine xl_pure rfl rfl rfl (pv_pick_t (v := .bool _) rfl rfl rfl) ?_
                                          refine xl_pure rfl rfl rfl (pv_not rfl rfl) ?_
                                          refine xl_pure rfl rfl rfl (pv_move (v := .bool _) rfl rfl) ?_
                                          refine xl_heavy rfl rfl rfl (hv_call (g := 10) rfl rfl (c10) rfl) ?_
                                          rintro v6_16 H6_16 ⟨rfl, hE6_16⟩
                                          have ma := ma.ext hE6_16
                                          have mb := mb.ext hE6_16
                                          have mc := mc.ext hE6_16
                                          have hX := hX.trans hE6_16
                                          refine xl_pure rfl rfl rfl (pv_pick_t (v := .bool _) rfl rfl rfl) ?_
                                          refine xl_pure rfl rfl rfl (pv_assign (v := .bool _) rfl rfl) ?_
                                          refine xl_nil ?_
                                          refine xthen_normal ?_
                                          refine xc_ret ?_
                                          refine fin_ret (res1 (v := .bool _) rfl rfl) ?_
                                          exact ⟨rfl, hX⟩
                                      · skip
                                        refine xl_pure rfl rfl rfl (pv_pick_t (v := .bool _) rfl rfl rfl) ?_
                                        refine xl_pure rfl rfl rfl (pv_move (v := .bool _) rfl rfl) ?_
                                        refine xl_skip rfl rfl rfl ?_
                                        refine xl_skip rfl rfl rfl ?_
                                        refine xl_skip rfl rfl rfl ?_
                                        refine xl_skip rfl rfl rfl ?_
                                        refine xl_pure rfl rfl rfl (pv_pick_f (v := .bool _) rfl rfl rfl) ?_
                                        refine xl_pure rfl rfl rfl (pv_not rfl rfl) ?_
                                        refine xl_pure rfl rfl rfl (pv_move (v := .bool _) rfl rfl) ?_
                                        refine xl_heavy rfl rfl rfl (hv_call (g := 10) rfl rfl (c10) rfl) ?_
                                        rintro v6_16 H6_16 ⟨rfl, hE6_16⟩
                                        have ma := ma.ext hE6_16
                                        have mb := mb.ext hE6_16
                                        have mc := mc.ext hE6_16
                                        have hX := hX.trans hE6_16
                                        refine xl_pure rfl rfl rfl (pv_pick_t (v := .bool _) rfl rfl rfl) ?_
                                        refine xl_pure rfl rfl rfl (pv_assign (v := .bool _) rfl rfl) ?_
                                        refine xl_nil ?_
                                        refine xthen_normal ?_
                                        refine xc_ret ?_
                                        refine fin_ret (res1 (v := .bool _) rfl rfl) ?_
                                        exact ⟨rfl, hX⟩
                                    · skip
                                      refine xl_pure rfl rfl rfl (pv_move (v := .bool _) rfl rfl) ?_
                                      refine xl_skip rfl rfl rfl ?_
                                      refine xl_skip rfl rfl rfl ?_
                                      refine xl_skip rfl rfl rfl ?_
                                      refine xl_skip rfl rfl rfl ?_
                                      refine xl_pure rfl rfl rfl (pv_pick_f (v := .bool _) rfl rfl rfl) ?_
                                      refine xl_pure rfl rfl rfl (pv_move (v := .bool _) rfl rfl) ?_
                                      refine xl_skip rfl rfl rfl ?_
                                      refine xl_skip rfl rfl rfl ?_
                                      refine xl_skip rfl rfl rfl ?_
                                      refine xl_skip rfl rfl rfl ?_
                                      refine xl_pure rfl rfl rfl (pv_pick_f (v := .bool _) rfl rfl rfl) ?_
                                      refine xl_pure rfl rfl rfl (pv_not rfl rfl) ?_
                                      refine xl_pure rfl rfl rfl (pv_move (v := .bool _) rfl rfl) ?_
                                      refine xl_heavy rfl rfl rfl (hv_call (g := 10) rfl rfl (c10) rfl) ?_
                                      rintro v6_16 H6_16 ⟨rfl, hE6_16⟩
                                      have ma := ma.ext hE6_16
                                      have mb := mb.ext hE6_16
                                      have mc := mc.ext hE6_16
                                      have hX := hX.trans hE6_16
                                      refine xl_pure rfl rfl rfl (pv_pick_t (v := .bool _) rfl rfl rfl) ?_
                                      refine xl_pure rfl rfl rfl (pv_assign (v := .bool _) rfl rfl) ?_
                                      refine xl_nil ?_
                                      refine xthen_normal ?_
                                      refine xc_ret ?_
                                      refine fin_ret (res1 (v := .bool _) rfl rfl) ?_
                                      exact ⟨rfl, hX⟩)
                              · first
                                | (exfalso; omega)
                                |  (skip
                                    refine xl_pure rfl rfl rfl (pv_neq_b rfl rfl rfl) ?_
                                    refine xl_pure rfl rfl rfl (pv_pick_f (v := .bool _) rfl rfl rfl) ?_
                                    refine xl_nil ?_
                                    refine xthen_normal ?_
                                    refine xc_cond_t rfl ?_
                                    refine xc_seq ?_
                                    refine xc_region ?_
                                    refine xl_pure rfl rfl rfl (pv_assign (v := .bool _) rfl rfl) ?_
                                    refine xl_nil ?_
                                    refine xthen_normal ?_
                                    refine xc_ret ?_
                                    refine xthen_ret ?_
                                    refine fin_ret (res1 (v := .bool _) rfl rfl) ?_
                                    exfalso; omega))
                        · first
                          | (exfalso; omega)
                          |  (skip
                              refine xl_pure rfl rfl rfl (pv_move (v := .int _ _) rfl rfl) ?_
                              refine xl_dec rfl rfl rfl (pv_gtr rfl rfl rfl) (fun h4_18 => ?_) (fun h4_18 => ?_)
                              · first
                                | (exfalso; omega)
                                |  (skip
                                    refine xl_pure rfl rfl rfl (pv_neq_b rfl rfl rfl) ?_
                                    refine xl_pure rfl rfl rfl (pv_pick_f (v := .bool _) rfl rfl rfl) ?_
                                    refine xl_nil ?_
                                    refine xthen_normal ?_
                                    refine xc_cond_t rfl ?_
                                    refine xc_seq ?_
                                    refine xc_region ?_
                                    refine xl_pure rfl rfl rfl (pv_assign (v := .bool _) rfl rfl) ?_
                                    refine xl_nil ?_
                                    refine xthen_normal ?_
                                    refine xc_ret ?_
                                    refine xthen_ret ?_
                                    refine fin_ret (res1 (v := .bool _) rfl rfl) ?_
                                    exfalso; omega)
                              · first
                                | (exfalso; omega)
                                |  (skip
                                    refine xl_pure rfl rfl rfl (pv_neq_b rfl rfl rfl) ?_
                                    refine xl_pure rfl rfl rfl (pv_pick_f (v := .bool _) rfl rfl rfl) ?_
                                    refine xl_nil ?_
                                    refine xthen_normal ?_
                                    refine xc_cond_f rfl ?_
                                    refine xc_skip ?_
                                    refine xthen_normal ?_
                                    refine xc_seq ?_
                                    refine xc_region ?_
                                    refine xl_pure rfl rfl rfl (pv_move (v := .int _ _) rfl rfl) ?_
                                    refine xl_dec rfl rfl rfl (pv_leq rfl rfl rfl) (fun h6_1 => ?_) (fun h6_1 => ?_)
                                    · skip
                                      refine xl_pure rfl rfl rfl (pv_move (v := .bool _) rfl rfl) ?_
                                      refine xl_light rfl rfl rfl (lv_load (v := .agg _) rfl rfl (ld_blk_a mb rfl rfl)) ?_
                                      refine xl_light rfl rfl rfl (lv_load (v := .agg _) rfl rfl (ld_blk_a mc rfl rfl)) ?_
                                      refine xl_heavy rfl rfl rfl (hv_call (g := 8) rfl rfl (c8 [x4, x5, x6, x7] [x8, x9, x10, x11] rfl rfl) rfl) ?_
                                      rintro v6_5 H6_5 ⟨rfl, hE6_5⟩
                                      have ma := ma.ext hE6_5
                                      have mb := mb.ext hE6_5
                                      have mc := mc.ext hE6_5
                                      have hX := hX.trans hE6_5
                                      refine xl_dec rfl rfl rfl (pv_leq rfl rfl rfl) (fun h6_6 => ?_) (fun h6_6 => ?_)
                                      · skip
                                        refine xl_pure rfl rfl rfl (pv_pick_t (v := .bool _) rfl rfl rfl) ?_
                                        refine xl_pure rfl rfl rfl (pv_move (v := .bool _) rfl rfl) ?_
                                        refine xl_light rfl rfl rfl (lv_load (v := .agg _) rfl rfl (ld_blk_a ma rfl rfl)) ?_
                                        refine xl_light rfl rfl rfl (lv_load (v := .agg _) rfl rfl (ld_blk_a mc rfl rfl)) ?_
                                        refine xl_heavy rfl rfl rfl (hv_call (g := 8) rfl rfl (c8 [x0, x1, x2, x3] [x8, x9, x10, x11] rfl rfl) rfl) ?_
                                        rintro v6_11 H6_11 ⟨rfl, hE6_11⟩
                                        have ma := ma.ext hE6_11
                                        have mb := mb.ext hE6_11
                                        have mc := mc.ext hE6_11
                                        have hX := hX.trans hE6_11
                                        refine xl_dec rfl rfl rfl (pv_gtr rfl rfl rfl) (fun h6_12 => ?_) (fun h6_12 => ?_)
                                        · exact absurd h6_12 (by have := (kcmp_trans (a := [x0, x1, x2, x3]) (b := [x4, x5, x6, x7]) (c := [x8, x9, x10, x11]) rfl rfl h6_1 h6_6).1; omega)
                                        · skip
                                          refine xl_pure rfl rfl rfl (pv_pick_t (v := .bool _) rfl rfl rfl) ?_
                                          refine xl_pure rfl rfl rfl (pv_not rfl rfl) ?_
                                          refine xl_pure rfl rfl rfl (pv_move (v := .bool _) rfl rfl) ?_
                                          refine xl_heavy rfl rfl rfl (hv_call (g := 10) rfl rfl (c10) rfl) ?_
                                          rintro v6_16 H6_16 ⟨rfl, hE6_16⟩
                                          have ma := ma.ext hE6_16
                                          have mb := mb.ext hE6_16
                                          have mc := mc.ext hE6_16
                                          have hX := hX.trans hE6_16
                                          refine xl_pure rfl rfl rfl (pv_pick_t (v := .bool _) rfl rfl rfl) ?_
                                          refine xl_pure rfl rfl rfl (pv_assign (v := .bool _) rfl rfl) ?_
                                          refine xl_nil ?_
                                          refine xthen_normal ?_
                                          refine xc_ret ?_
                                          refine fin_ret (res1 (v := .bool _) rfl rfl) ?_
                                          exact ⟨rfl, hX⟩
                                      · skip
                                        refine xl_pure rfl rfl rfl (pv_pick_t (v := .bool _) rfl rfl rfl) ?_
                                        refine xl_pure rfl rfl rfl (pv_move (v := .bool _) rfl rfl) ?_
                                        refine xl_skip rfl rfl rfl ?_
                                        refine xl_skip rfl rfl rfl ?_
                                        refine xl_skip rfl rfl rfl ?_
                                        refine xl_skip rfl rfl rfl ?_
                                        refine xl_pure rfl rfl rfl (pv_pick_f (v := .bool _) rfl rfl rfl) ?_
                                        refine xl_pure rfl rfl rfl (pv_not rfl rfl) ?_
                                        refine xl_pure rfl rfl rfl (pv_move (v := .bool _) rfl rfl) ?_
                                        refine xl_heavy rfl rfl rfl (hv_call (g := 10) rfl rfl (c10) rfl) ?_
                                        rintro v6_16 H6_16 ⟨rfl, hE6_16⟩
                                        have ma := ma.ext hE6_16
                                        have mb := mb.ext hE6_16
                                        have mc := mc.ext hE6_16
                                        have hX := hX.trans hE6_16
                                        refine xl_pure rfl rfl rfl (pv_pick_t (v := .bool _) rfl rfl rfl) ?_
                                        refine xl_pure rfl rfl rfl (pv_assign (v := .bool _) rfl rfl) ?_
                                        refine xl_nil ?_
                                        refine xthen_normal ?_
                                        refine xc_ret ?_
                                        refine fin_ret (res1 (v := .bool _) rfl rfl) ?_
                                        exact ⟨rfl, hX⟩
                                    · skip
                                      refine xl_pure rfl rfl rfl (pv_move (v := .bool _) rfl rfl) ?_
                                      refine xl_skip rfl rfl rfl ?_
                                      refine xl_skip rfl rfl rfl ?_
                                      refine xl_skip rfl rfl rfl ?_
                                      refine xl_skip rfl rfl rfl ?_
                                      refine xl_pure rfl rfl rfl (pv_pick_f (v := .bool _) rfl rfl rfl) ?_
                                      refine xl_pure rfl rfl rfl (pv_move (v := .bool _) rfl rfl) ?_
                                      refine xl_skip rfl rfl rfl ?_
                                      refine xl_skip rfl rfl rfl ?_
                                      refine xl_skip rfl rfl rfl ?_
                                      refine xl_skip rfl rfl rfl ?_
                                      refine xl_pure rfl rfl rfl (pv_pick_f (v := .bool _) rfl rfl rfl) ?_
                                      refine xl_pure rfl rfl rfl (pv_not rfl rfl) ?_
                                      refine xl_pure rfl rfl rfl (pv_move (v := .bool _) rfl rfl) ?_
                                      refine xl_heavy rfl rfl rfl (hv_call (g := 10) rfl rfl (c10) rfl) ?_
                                      rintro v6_16 H6_16 ⟨rfl, hE6_16⟩
                                      have ma := ma.ext hE6_16
                                      have mb := mb.ext hE6_16
                                      have mc := mc.ext hE6_16
                                      have hX := hX.trans hE6_16
                                      refine xl_pure rfl rfl rfl (pv_pick_t (v := .bool _) rfl rfl rfl) ?_
                                      refine xl_pure rfl rfl rfl (pv_assign (v := .bool _) rfl rfl) ?_
                                      refine xl_nil ?_
                                      refine xthen_normal ?_
                                      refine xc_ret ?_
                                      refine fin_ret (res1 (v := .bool _) rfl rfl) ?_
                                      exact ⟨rfl, hX⟩)))
                  · first
                    | (exfalso; omega)
                    |  (skip
                        refine xl_pure rfl rfl rfl (pv_neq_b rfl rfl rfl) ?_
                        refine xl_pure rfl rfl rfl (pv_pick_f (v := .bool _) rfl rfl rfl) ?_
                        refine xl_pure rfl rfl rfl (pv_move (v := .bool _) rfl rfl) ?_
                        refine xl_skip rfl rfl rfl ?_
                        refine xl_skip rfl rfl rfl ?_
                        refine xl_skip rfl rfl rfl ?_
                        refine xl_skip rfl rfl rfl ?_
                        refine xl_skip rfl rfl rfl ?_
                        refine xl_skip rfl rfl rfl ?_
                        refine xl_skip rfl rfl rfl ?_
                        refine xl_pure rfl rfl rfl (pv_pick_t (v := .bool _) rfl rfl rfl) ?_
                        refine xl_nil ?_
                        refine xthen_normal ?_
                        refine xc_cond_t rfl ?_
                        refine xc_seq ?_
                        refine xc_region ?_
                        refine xl_pure rfl rfl rfl (pv_assign (v := .bool _) rfl rfl) ?_
                        refine xl_nil ?_
                        refine xthen_normal ?_
                        refine xc_ret ?_
                        refine xthen_ret ?_
                        refine fin_ret (res1 (v := .bool _) rfl rfl) ?_
                        exfalso; omega))
            · first
              | (exfalso; omega)
              |  (skip
                  refine xl_pure rfl rfl rfl (pv_move (v := .int _ _) rfl rfl) ?_
                  refine xl_dec rfl rfl rfl (pv_gtr rfl rfl rfl) (fun h4_9 => ?_) (fun h4_9 => ?_)
                  · first
                    | (exfalso; omega)
                    |  (skip
                        refine xl_pure rfl rfl rfl (pv_neq_b rfl rfl rfl) ?_
                        refine xl_pure rfl rfl rfl (pv_pick_f (v := .bool _) rfl rfl rfl) ?_
                        refine xl_pure rfl rfl rfl (pv_move (v := .bool _) rfl rfl) ?_
                        refine xl_skip rfl rfl rfl ?_
                        refine xl_skip rfl rfl rfl ?_
                        refine xl_skip rfl rfl rfl ?_
                        refine xl_skip rfl rfl rfl ?_
                        refine xl_skip rfl rfl rfl ?_
                        refine xl_skip rfl rfl rfl ?_
                        refine xl_skip rfl rfl rfl ?_
                        refine xl_pure rfl rfl rfl (pv_pick_t (v := .bool _) rfl rfl rfl) ?_
                        refine xl_nil ?_
                        refine xthen_normal ?_
                        refine xc_cond_t rfl ?_
                        refine xc_seq ?_
                        refine xc_region ?_
                        refine xl_pure rfl rfl rfl (pv_assign (v := .bool _) rfl rfl) ?_
                        refine xl_nil ?_
                        refine xthen_normal ?_
                        refine xc_ret ?_
                        refine xthen_ret ?_
                        refine fin_ret (res1 (v := .bool _) rfl rfl) ?_
                        exfalso; omega)
                  · first
                    | (exfalso; omega)
                    |  (skip
                        refine xl_pure rfl rfl rfl (pv_neq_b rfl rfl rfl) ?_
                        refine xl_pure rfl rfl rfl (pv_pick_f (v := .bool _) rfl rfl rfl) ?_
                        refine xl_pure rfl rfl rfl (pv_move (v := .bool _) rfl rfl) ?_
                        refine xl_light rfl rfl rfl (lv_load (v := .agg _) rfl rfl (ld_blk_a mb rfl rfl)) ?_
                        refine xl_light rfl rfl rfl (lv_load (v := .agg _) rfl rfl (ld_blk_a ma rfl rfl)) ?_
                        refine xl_heavy rfl rfl rfl (hv_call (g := 8) rfl rfl (c8 [x4, x5, x6, x7] [x0, x1, x2, x3] rfl rfl) rfl) ?_
                        rintro v4_15 H4_15 ⟨rfl, hE4_15⟩
                        have ma := ma.ext hE4_15
                        have mb := mb.ext hE4_15
                        have mc := mc.ext hE4_15
                        have hX := hX.trans hE4_15
                        refine xl_dec rfl rfl rfl (pv_lss rfl rfl rfl) (fun h4_16 => ?_) (fun h4_16 => ?_)
                        · first
                          | (exfalso; omega)
                          |  (skip
                              refine xl_pure rfl rfl rfl (pv_move (v := .int _ _) rfl rfl) ?_
                              refine xl_dec rfl rfl rfl (pv_gtr rfl rfl rfl) (fun h4_18 => ?_) (fun h4_18 => ?_)
                              · first
                                | (exfalso; omega)
                                |  (skip
                                    refine xl_pure rfl rfl rfl (pv_neq_b rfl rfl rfl) ?_
                                    refine xl_pure rfl rfl rfl (pv_pick_f (v := .bool _) rfl rfl rfl) ?_
                                    refine xl_nil ?_
                                    refine xthen_normal ?_
                                    refine xc_cond_f rfl ?_
                                    refine xc_skip ?_
                                    refine xthen_normal ?_
                                    refine xc_seq ?_
                                    refine xc_region ?_
                                    refine xl_pure rfl rfl rfl (pv_move (v := .int _ _) rfl rfl) ?_
                                    refine xl_dec rfl rfl rfl (pv_leq rfl rfl rfl) (fun h6_1 => ?_) (fun h6_1 => ?_)
                                    · skip
                                      refine xl_pure rfl rfl rfl (pv_move (v := .bool _) rfl rfl) ?_
                                      refine xl_light rfl rfl rfl (lv_load (v := .agg _) rfl rfl (ld_blk_a mb rfl rfl)) ?_
                                      refine xl_light rfl rfl rfl (lv_load (v := .agg _) rfl rfl (ld_blk_a mc rfl rfl)) ?_
                                      refine xl_heavy rfl rfl rfl (hv_call (g := 8) rfl rfl (c8 [x4, x5, x6, x7] [x8, x9, x10, x11] rfl rfl) rfl) ?_
                                      rintro v6_5 H6_5 ⟨rfl, hE6_5⟩
                                      have ma := ma.ext hE6_5
                                      have mb := mb.ext hE6_5
                                      have mc := mc.ext hE6_5
                                      have hX := hX.trans hE6_5
                                      refine xl_dec rfl rfl rfl (pv_leq rfl rfl rfl) (fun h6_6 => ?_) (fun h6_6 => ?_)
                                      · skip
                                        refine xl_pure rfl rfl rfl (pv_pick_t (v := .bool _) rfl rfl rfl) ?_
                                        refine xl_pure rfl rfl rfl (pv_move (v := .bool _) rfl rfl) ?_
                                        refine xl_light rfl rfl rfl (lv_load (v := .agg _) rfl rfl (ld_blk_a ma rfl rfl)) ?_
                                        refine xl_light rfl rfl rfl (lv_load (v := .agg _) rfl rfl (ld_blk_a mc rfl rfl)) ?_
                                        refine xl_heavy rfl rfl rfl (hv_call (g := 8) rfl rfl (c8 [x0, x1, x2, x3] [x8, x9, x10, x11] rfl rfl) rfl) ?_
                                        rintro v6_11 H6_11 ⟨rfl, hE6_11⟩
                                        have ma := ma.ext hE6_11
                                        have mb := mb.ext hE6_11
                                        have mc := mc.ext hE6_11
                                        have hX := hX.trans hE6_11
                                        refine xl_dec rfl rfl rfl (pv_gtr rfl rfl rfl) (fun h6_12 => ?_) (fun h6_12 => ?_)
                                        · exact absurd h6_12 (by have := (kcmp_trans (a := [x0, x1, x2, x3]) (b := [x4, x5, x6, x7]) (c := [x8, x9, x10, x11]) rfl rfl h6_1 h6_6).1; omega)
                                        · skip
                                          refine xl_pure rfl rfl rfl (pv_pick_t (v := .bool _) rfl rfl rfl) ?_
                                          refine xl_pure rfl rfl rfl (pv_not rfl rfl) ?_
                                          refine xl_pure rfl rfl rfl (pv_move (v := .bool _) rfl rfl) ?_
                                          refine xl_heavy rfl rfl rfl (hv_call (g := 10) rfl rfl (c10) rfl) ?_
                                          rintro v6_16 H6_16 ⟨rfl, hE6_16⟩
                                          have ma := ma.ext hE6_16
                                          have mb := mb.ext hE6_16
                                          have mc := mc.ext hE6_16
                                          have hX := hX.trans hE6_16
                                          refine xl_pure rfl rfl rfl (pv_pick_t (v := .bool _) rfl rfl rfl) ?_
                                          refine xl_pure rfl rfl rfl (pv_assign (v := .bool _) rfl rfl) ?_
                                          refine xl_nil ?_
                                          refine xthen_normal ?_
                                          refine xc_ret ?_
                                          refine fin_ret (res1 (v := .bool _) rfl rfl) ?_
                                          exact ⟨rfl, hX⟩
                                      · skip
                                        refine xl_pure rfl rfl rfl (pv_pick_t (v := .bool _) rfl rfl rfl) ?_
                                        refine xl_pure rfl rfl rfl (pv_move (v := .bool _) rfl rfl) ?_
                                        refine xl_skip rfl rfl rfl ?_
                                        refine xl_skip rfl rfl rfl ?_
                                        refine xl_skip rfl rfl rfl ?_
                                        refine xl_skip rfl rfl rfl ?_
                                        refine xl_pure rfl rfl rfl (pv_pick_f (v := .bool _) rfl rfl rfl) ?_
                                        refine xl_pure rfl rfl rfl (pv_not rfl rfl) ?_
                                        refine xl_pure rfl rfl rfl (pv_move (v := .bool _) rfl rfl) ?_
                                        refine xl_heavy rfl rfl rfl (hv_call (g := 10) rfl rfl (c10) rfl) ?_
                                        rintro v6_16 H6_16 ⟨rfl, hE6_16⟩
                                        have ma := ma.ext hE6_16
                                        have mb := mb.ext hE6_16
                                        have mc := mc.ext hE6_16
                                        have hX := hX.trans hE6_16
                                        refine xl_pure rfl rfl rfl (pv_pick_t (v := .bool _) rfl rfl rfl) ?_
                                        refine xl_pure rfl rfl rfl (pv_assign (v := .bool _) rfl rfl) ?_
                                        refine xl_nil ?_
                                        refine xthen_normal ?_
                                        refine xc_ret ?_
                                        refine fin_ret (res1 (v := .bool _) rfl rfl) ?_
                                        exact ⟨rfl, hX⟩
                                    · skip
                                      refine xl_pure rfl rfl rfl (pv_move (v := .bool _) rfl rfl) ?_
                                      refine xl_skip rfl rfl rfl ?_
                                      refine xl_skip rfl rfl rfl ?_
                                      refine xl_skip rfl rfl rfl ?_
                                      refine xl_skip rfl rfl rfl ?_
                                      refine xl_pure rfl rfl rfl (pv_pick_f (v := .bool _) rfl rfl rfl) ?_
                                      refine xl_pure rfl rfl rfl (pv_move (v := .bool _) rfl rfl) ?_
                                      refine xl_skip rfl rfl rfl ?_
                                      refine xl_skip rfl rfl rfl ?_
                                      refine xl_skip rfl rfl rfl ?_
                                      refine xl_skip rfl rfl rfl ?_
                                      refine xl_pure rfl rfl rfl (pv_pick_f (v := .bool _) rfl rfl rfl) ?_
                                      refine xl_pure rfl rfl rfl (pv_not rfl rfl) ?_
                                      refine xl_pure rfl rfl rfl (pv_move (v := .bool _) rfl rfl) ?_
                                      refine xl_heavy rfl rfl rfl (hv_call (g := 10) rfl rfl (c10) rfl) ?_
                                      rintro v6_16 H6_16 ⟨rfl, hE6_16⟩
                                      have ma := ma.ext hE6_16
                                      have mb := mb.ext hE6_16
                                      have mc := mc.ext hE6_16
                                      have hX := hX.trans hE6_16
                                      refine xl_pure rfl rfl rfl (pv_pick_t (v := .bool _) rfl rfl rfl) ?_
                                      refine xl_pure rfl rfl rfl (pv_assign (v := .bool _) rfl rfl) ?_
                                      refine xl_nil ?_
                                      refine xthen_normal ?_
                                      refine xc_ret ?_
                                      refine fin_ret (res1 (v := .bool _) rfl rfl) ?_
                                      exact ⟨rfl, hX⟩)
                              · first
                                | (exfalso; omega)
                                |  (skip
                                    refine xl_pure rfl rfl rfl (pv_neq_b rfl rfl rfl) ?_
                                    refine xl_pure rfl rfl rfl (pv_pick_f (v := .bool _) rfl rfl rfl) ?_
                                    refine xl_nil ?_
                                    refine xthen_normal ?_
                                    refine xc_cond_t rfl ?_
                                    refine xc_seq ?_
                                    refine xc_region ?_
                                    refine xl_pure rfl rfl rfl (pv_assign (v := .bool _) rfl rfl) ?_
                                    refine xl_nil ?_
                                    refine xthen_normal ?_
                                    refine xc_ret ?_
                                    refine xthen_ret ?_
                                    refine fin_ret (res1 (v := .bool _) rfl rfl) ?_
                                    exfalso; omega))
                        · first
                          | (exfalso; omega)
                          |  (skip
                              refine xl_pure rfl rfl rfl (pv_move (v := .int _ _) rfl rfl) ?_
                              refine xl_dec rfl rfl rfl (pv_gtr rfl rfl rfl) (fun h4_18 => ?_) (fun h4_18 => ?_)
                              · first
                                | (exfalso; omega)
                                |  (skip
                                    refine xl_pure rfl rfl rfl (pv_neq_b rfl rfl rfl) ?_
                                    refine xl_pure rfl rfl rfl (pv_pick_f (v := .bool _) rfl rfl rfl) ?_
                                    refine xl_nil ?_
                                    refine xthen_normal ?_
                                    refine xc_cond_t rfl ?_
                                    refine xc_seq ?_
                                    refine xc_region ?_
                                    refine xl_pure rfl rfl rfl (pv_assign (v := .bool _) rfl rfl) ?_
                                    refine xl_nil ?_
                                    refine xthen_normal ?_
                                    refine xc_ret ?_
                                    refine xthen_ret ?_
                                    refine fin_ret (res1 (v := .bool _) rfl rfl) ?_
                                    exfalso; omega)
                              · first
                                | (exfalso; omega)
                                |  (skip
                                    refine xl_pure rfl rfl rfl (pv_neq_b rfl rfl rfl) ?_
                                    refine xl_pure rfl rfl rfl (pv_pick_f (v := .bool _) rfl rfl rfl) ?_
                                    refine xl_nil ?_
                                    refine xthen_normal ?_
                                    refine xc_cond_f rfl ?_
                                    refine xc_skip ?_
                                    refine xthen_normal ?_
                                    refine xc_seq ?_
                                    refine xc_region ?_
                                    refine xl_pure rfl rfl rfl (pv_move (v := .int _ _) rfl rfl) ?_
                                    refine xl_dec rfl rfl rfl (pv_leq rfl rfl rfl) (fun h6_1 => ?_) (fun h6_1 => ?_)
                                    · skip
                                      refine xl_pure rfl rfl rfl (pv_move (v := .bool _) rfl rfl) ?_
                                      refine xl_light rfl rfl rfl (lv_load (v := .agg _) rfl rfl (ld_blk_a mb rfl rfl)) ?_
                                      refine xl_light rfl rfl rfl (lv_load (v := .agg _) rfl rfl (ld_blk_a mc rfl rfl)) ?_
                                      refine xl_heavy rfl rfl rfl (hv_call (g := 8) rfl rfl (c8 [x4, x5, x6, x7] [x8, x9, x10, x11] rfl rfl) rfl) ?_
                                      rintro v6_5 H6_5 ⟨rfl, hE6_5⟩
                                      have ma := ma.ext hE6_5
                                      have mb := mb.ext hE6_5
                                      have mc := mc.ext hE6_5
                                      have hX := hX.trans hE6_5
                                      refine xl_dec rfl rfl rfl (pv_leq rfl rfl rfl) (fun h6_6 => ?_) (fun h6_6 => ?_)
                                      · skip
                                        refine xl_pure rfl rfl rfl (pv_pick_t (v := .bool _) rfl rfl rfl) ?_
                                        refine xl_pure rfl rfl rfl (pv_move (v := .bool _) rfl rfl) ?_
                                        refine xl_light rfl rfl rfl (lv_load (v := .agg _) rfl rfl (ld_blk_a ma rfl rfl)) ?_
                                        refine xl_light rfl rfl rfl (lv_load (v := .agg _) rfl rfl (ld_blk_a mc rfl rfl)) ?_
                                        refine xl_heavy rfl rfl rfl (hv_call (g := 8) rfl rfl (c8 [x0, x1, x2, x3] [x8, x9, x10, x11] rfl rfl) rfl) ?_
                                        rintro v6_11 H6_11 ⟨rfl, hE6_11⟩
                                        have ma := ma.ext hE6_11
                                        have mb := mb.ext hE6_11
                                        have mc := mc.ext hE6_11
                                        have hX := hX.trans hE6_11
                                        refine xl_dec rfl rfl rfl (pv_gtr rfl rfl rfl) (fun h6_12 => ?_) (fun h6_12 => ?_)
                                        · exact absurd h6_12 (by have := (kcmp_trans (a := [x0, x1, x2, x3]) (b := [x4, x5, x6, x7]) (c := [x8, x9, x10, x11]) rfl rfl h6_1 h6_6).1; omega)
                                        · skip
                                          refine xl_pure rfl rfl rfl (pv_pick_t (v := .bool _) rfl rfl rfl) ?_
                                          refine xl_pure rfl rfl rfl (pv_not rfl rfl) ?_
                                          refine xl_pure rfl rfl rfl (pv_move (v := .bool _) rfl rfl) ?_
                                          refine xl_heavy rfl rfl rfl (hv_call (g := 10) rfl rfl (c10) rfl) ?_
                                          rintro v6_16 H6_16 ⟨rfl, hE6_16⟩
                                          have ma := ma.ext hE6_16
                                          have mb := mb.ext hE6_16
                                          have mc := mc.ext hE6_16
                                          have hX := hX.trans hE6_16
                                          refine xl_pure rfl rfl rfl (pv_pick_t (v := .bool _) rfl rfl rfl) ?_
                                          refine xl_pure rfl rfl rfl (pv_assign (v := .bool _) rfl rfl) ?_
                                          refine xl_nil ?_
                                          refine xthen_normal ?_
                                          refine xc_ret ?_
                                          refine fin_ret (res1 (v := .bool _) rfl rfl) ?_
                                          exact ⟨rfl, hX⟩
                                      · skip
                                        refine xl_pure rfl rfl rfl (pv_pick_t (v := .bool _) rfl rfl rfl) ?_
                                        refine xl_pure rfl rfl rfl (pv_move (v := .bool _) rfl rfl) ?_
                                        refine xl_skip rfl rfl rfl ?_
                                        refine xl_skip rfl rfl rfl ?_
                                        refine xl_skip rfl rfl rfl ?_
                                        refine xl_skip rfl rfl rfl ?_
                                        refine xl_pure rfl rfl rfl (pv_pick_f (v := .bool _) rfl rfl rfl) ?_
                                        refine xl_pure rfl rfl rfl (pv_not rfl rfl) ?_
                                        refine xl_pure rfl rfl rfl (pv_move (v := .bool _) rfl rfl) ?_
                                        refine xl_heavy rfl rfl rfl (hv_call (g := 10) rfl rfl (c10) rfl) ?_
                                        rintro v6_16 H6_16 ⟨rfl, hE6_16⟩
                                        have ma := ma.ext hE6_16
                                        have mb := mb.ext hE6_16
                                        have mc := mc.ext hE6_16
                                        have hX := hX.trans hE6_16
                                        refine xl_pure rfl rfl rfl (pv_pick_t (v := .bool _) rfl rfl rfl) ?_
                                        refine xl_pure rfl rfl rfl (pv_assign (v := .bool _) rfl rfl) ?_
                                        refine xl_nil ?_
                                        refine xthen_normal ?_
                                        refine xc_ret ?_
                                        refine fin_ret (res1 (v := .bool _) rfl rfl) ?_
                                        exact ⟨rfl, hX⟩
                                    · skip
                                      refine xl_pure rfl rfl rfl (pv_move (v := .bool _) rfl rfl) ?_
                                      refine xl_skip rfl rfl rfl ?_
                                      refine xl_skip rfl rfl rfl ?_
                                      refine xl_skip rfl rfl rfl ?_
                                      refine xl_skip rfl rfl rfl ?_
                                      refine xl_pure rfl rfl rfl (pv_pick_f (v := .bool _) rfl rfl rfl) ?_
                                      refine xl_pure rfl rfl rfl (pv_move (v := .bool _) rfl rfl) ?_
                                      refine xl_skip rfl rfl rfl ?_
                                      refine xl_skip rfl rfl rfl ?_
                                      refine xl_skip rfl rfl rfl ?_
                                      refine xl_skip rfl rfl rfl ?_
                                      refine xl_pure rfl rfl rfl (pv_pick_f (v := .bool _) rfl rfl rfl) ?_
                                      refine xl_pure rfl rfl rfl (pv_not rfl rfl) ?_
                                      refine xl_pure rfl rfl rfl (pv_move (v := .bool _) rfl rfl) ?_
                                      refine xl_heavy rfl rfl rfl (hv_call (g := 10) rfl rfl (c10) rfl) ?_
                                      rintro v6_16 H6_16 ⟨rfl, hE6_16⟩
                                      have ma := ma.ext hE6_16
                                      have mb := mb.ext hE6_16
                                      have mc := mc.ext hE6_16
                                      have hX := hX.trans hE6_16
                                      refine xl_pure rfl rfl rfl (pv_pick_t (v := .bool _) rfl rfl rfl) ?_
                                      refine xl_pure rfl rfl rfl (pv_assign (v := .bool _) rfl rfl) ?_
                                      refine xl_nil ?_
                                      refine xthen_normal ?_
                                      refine xc_ret ?_
                                      refine fin_ret (res1 (v := .bool _) rfl rfl) ?_
                                      exact ⟨rfl, hX⟩)))))
      · first
        | (exfalso; omega)
        |  (skip
            refine xl_pure rfl rfl rfl (pv_neq_b rfl rfl rfl) ?_
            refine xl_pure rfl rfl rfl (pv_move (v := .bool _) rfl rfl) ?_
            refine xl_skip rfl rfl rfl ?_
            refine xl_skip rfl rfl rfl ?_
            refine xl_skip rfl rfl rfl ?_
            refine xl_skip rfl rfl rfl ?_
            refine xl_skip rfl rfl rfl ?_
            refine xl_pure rfl rfl rfl (pv_pick_t (v := .bool _) rfl rfl rfl) ?_
            refine xl_pure rfl rfl rfl (pv_move (v := .bool _) rfl rfl) ?_
            refine xl_skip rfl rfl rfl ?_
            refine xl_skip rfl rfl rfl ?_
            refine xl_skip rfl rfl rfl ?_
            refine xl_skip rfl rfl rfl ?_
            refine xl_skip rfl rfl rfl ?_
            refine xl_skip rfl rfl rfl ?_
            refine xl_skip rfl rfl rfl ?_
            refine xl_pure rfl rfl rfl (pv_pick_t (v := .bool _) rfl rfl rfl) ?_
            refine xl_nil ?_
            refine xthen_normal ?_
            refine xc_cond_t rfl ?_
            refine xc_seq ?_
            refine xc_region ?_
            refine xl_pure rfl rfl rfl (pv_assign (v := .bool _) rfl rfl) ?_
            refine xl_nil ?_
            refine xthen_normal ?_
            refine xc_ret ?_
            refine xthen_ret ?_
            refine fin_ret (res1 (v := .bool _) rfl rfl) ?_
            exfalso; omega)
    · skip
      refine xl_pure rfl rfl rfl (pv_move (v := .int _ _) rfl rfl) ?_
      refine xl_dec rfl rfl rfl (pv_lss rfl rfl rfl) (fun h4_3 => ?_) (fun h4_3 => ?_)
      · first
        | (exfalso; omega)
        |  (skip
            refine xl_pure rfl rfl rfl (pv_neq_b rfl rfl rfl) ?_
            refine xl_pure rfl rfl rfl (pv_move (v := .bool _) rfl rfl) ?_
            refine xl_skip rfl rfl rfl ?_
            refine xl_skip rfl rfl rfl ?_
            refine xl_skip rfl rfl rfl ?_
            refine xl_skip rfl rfl rfl ?_
            refine xl_skip rfl rfl rfl ?_
            refine xl_pure rfl rfl rfl (pv_pick_t (v := .bool _) rfl rfl rfl) ?_
            refine xl_pure rfl rfl rfl (pv_move (v := .bool _) rfl rfl) ?_
            refine xl_skip rfl rfl rfl ?_
            refine xl_skip rfl rfl rfl ?_
            refine xl_skip rfl rfl rfl ?_
            refine xl_skip rfl rfl rfl ?_
            refine xl_skip rfl rfl rfl ?_
            refine xl_skip rfl rfl rfl ?_
            refine xl_skip rfl rfl rfl ?_
            refine xl_pure rfl rfl rfl (pv_pick_t (v := .bool _) rfl rfl rfl) ?_
            refine xl_nil ?_
            refine xthen_normal ?_
            refine xc_cond_t rfl ?_
            refine xc_seq ?_
            refine xc_region ?_
            refine xl_pure rfl rfl rfl (pv_assign (v := .bool _) rfl rfl) ?_
            refine xl_nil ?_
            refine xthen_normal ?_
            refine xc_ret ?_
            refine xthen_ret ?_
            refine fin_ret (res1 (v := .bool _) rfl rfl) ?_
            exfalso; omega)
      · first
        | (exfalso; omega)
        |  (skip
            refine xl_pure rfl rfl rfl (pv_neq_b rfl rfl rfl) ?_
            refine xl_pure rfl rfl rfl (pv_move (v := .bool _) rfl rfl) ?_
            refine xl_pure rfl rfl rfl (pv_move (v := .int _ _) rfl rfl) ?_
            refine xl_dec rfl rfl rfl (pv_gtr rfl rfl rfl) (fun h4_7 => ?_) (fun h4_7 => ?_)
            · first
              | (exfalso; omega)
              |  (skip
                  refine xl_pure rfl rfl rfl (pv_move (v := .int _ _) rfl rfl) ?_
                  refine xl_dec rfl rfl rfl (pv_gtr rfl rfl rfl) (fun h4_9 => ?_) (fun h4_9 => ?_)
                  · first
                    | (exfalso; omega)
                    |  (skip
                        refine xl_pure rfl rfl rfl (pv_neq_b rfl rfl rfl) ?_
                        refine xl_pure rfl rfl rfl (pv_pick_f (v := .bool _) rfl rfl rfl) ?_
                        refine xl_pure rfl rfl rfl (pv_move (v := .bool _) rfl rfl) ?_
                        refine xl_light rfl rfl rfl (lv_load (v := .agg _) rfl rfl (ld_blk_a mb rfl rfl)) ?_
                        refine xl_light rfl rfl rfl (lv_load (v := .agg _) rfl rfl (ld_blk_a ma rfl rfl)) ?_
                        refine xl_heavy rfl rfl rfl (hv_call (g := 8) rfl rfl (c8 [x4, x5, x6, x7] [x0, x1, x2, x3] rfl rfl) rfl) ?_
                        rintro v4_15 H4_15 ⟨rfl, hE4_15⟩
                        have ma := ma.ext hE4_15
                        have mb := mb.ext hE4_15
                        have mc := mc.ext hE4_15
                        have hX := hX.trans hE4_15
                        refine xl_dec rfl rfl rfl (pv_lss rfl rfl rfl) (fun h4_16 => ?_) (fun h4_16 => ?_)
                        · first
                          | (exfalso; omega)
                          |  (skip
                              refine xl_pure rfl rfl rfl (pv_move (v := .int _ _) rfl rfl) ?_
                              refine xl_dec rfl rfl rfl (pv_gtr rfl rfl rfl) (fun h4_18 => ?_) (fun h4_18 => ?_)
                              · first
                                | (exfalso; omega)
                                |  (skip
                                    refine xl_pure rfl rfl rfl (pv_neq_b rfl rfl rfl) ?_
                                    refine xl_pure rfl rfl rfl (pv_pick_f (v := .bool _) rfl rfl rfl) ?_
                                    refine xl_nil ?_
                                    refine xthen_normal ?_
                                    refine xc_cond_f rfl ?_
                                    refine xc_skip ?_
                                    refine xthen_normal ?_
                                    refine xc_seq ?_
                                    refine xc_region ?_
                                    refine xl_pure rfl rfl rfl (pv_move (v := .int _ _) rfl rfl) ?_
                                    refine xl_dec rfl rfl rfl (pv_leq rfl rfl rfl) (fun h6_1 => ?_) (fun h6_1 => ?_)
                                    · skip
                                      refine xl_pure rfl rfl rfl (pv_move (v := .bool _) rfl rfl) ?_
                                      refine xl_light rfl rfl rfl (lv_load (v := .agg _) rfl rfl (ld_blk_a mb rfl rfl)) ?_
                                      refine xl_light rfl rfl rfl (lv_load (v := .agg _) rfl rfl (ld_blk_a mc rfl rfl)) ?_
                                      refine xl_heavy rfl rfl rfl (hv_call (g := 8) rfl rfl (c8 [x4, x5, x6, x7] [x8, x9, x10, x11] rfl rfl) rfl) ?_
                                      rintro v6_5 H6_5 ⟨rfl, hE6_5⟩
                                      have ma := ma.ext hE6_5
                                      have mb := mb.ext hE6_5
                                      have mc := mc.ext hE6_5
                                      have hX := hX.trans hE6_5
                                      refine xl_dec rfl rfl rfl (pv_leq rfl rfl rfl) (fun h6_6 => ?_) (fun h6_6 => ?_)
                                      · skip
                                        refine xl_pure rfl rfl rfl (pv_pick_t (v := .bool _) rfl rfl rfl) ?_
                                        refine xl_pure rfl rfl rfl (pv_move (v := .bool _) rfl rfl) ?_
                                        refine xl_light rfl rfl rfl (lv_load (v := .agg _) rfl rfl (ld_blk_a ma rfl rfl)) ?_
                                        refine xl_light rfl rfl rfl (lv_load (v := .agg _) rfl rfl (ld_blk_a mc rfl rfl)) ?_
                                        refine xl_heavy rfl rfl rfl (hv_call (g := 8) rfl rfl (c8 [x0, x1, x2, x3] [x8, x9, x10, x11] rfl rfl) rfl) ?_
                                        rintro v6_11 H6_11 ⟨rfl, hE6_11⟩
                                        have ma := ma.ext hE6_11
                                        have mb := mb.ext hE6_11
                                        have mc := mc.ext hE6_11
                                        have hX := hX.trans hE6_11
                                        refine xl_dec rfl rfl rfl (pv_gtr rfl rfl rfl) (fun h6_12 => ?_) (fun h6_12 => ?_)
                                        · exact absurd h6_12 (by have := (kcmp_trans (a := [x0, x1, x2, x3]) (b := [x4, x5, x6, x7]) (c := [x8, x9, x10, x11]) rfl rfl h6_1 h6_6).1; omega)
                                        · skip
                                          refine xl_pure rfl rfl rfl (pv_pick_t (v := .bool _) rfl rfl rfl) ?_
                                          refine xl_pure rfl rfl rfl (pv_not rfl rfl) ?_
                                          refine xl_pure rfl rfl rfl (pv_move (v := .bool _) rfl rfl) ?_
                                          refine xl_heavy rfl rfl rfl (hv_call (g := 10) rfl rfl (c10) rfl) ?_
                                          rintro v6_16 H6_16 ⟨rfl, hE6_16⟩
                                          have ma := ma.ext hE6_16
                                          have mb := mb.ext hE6_16
                                          have mc := mc.ext hE6_16
                                          have hX := hX.trans hE6_16
                                          refine xl_pure rfl rfl rfl (pv_pick_t (v := .bool _) rfl rfl rfl) ?_
                                          refine xl_pure rfl rfl rfl (pv_assign (v := .bool _) rfl rfl) ?_
                                          refine xl_nil ?_
                                          refine xthen_normal ?_
                                          refine xc_ret ?_
                                          refine fin_ret (res1 (v := .bool _) rfl rfl) ?_
                                          exact ⟨rfl, hX⟩
                                      · skip
                                        refine xl_pure rfl rfl rfl (pv_pick_t (v := .bool _) rfl rfl rfl) ?_
                                        refine xl_pure rfl rfl rfl (pv_move (v := .bool _) rfl rfl) ?_
                                        refine xl_skip rfl rfl rfl ?_
                                        refine xl_skip rfl rfl rfl ?_
                                        refine xl_skip rfl rfl rfl ?_
                                        refine xl_skip rfl rfl rfl ?_
                                        refine xl_pure rfl rfl rfl (pv_pick_f (v := .bool _) rfl rfl rfl) ?_
                                        refine xl_pure rfl rfl rfl (pv_not rfl rfl) ?_
                                        refine xl_pure rfl rfl rfl (pv_move (v := .bool _) rfl rfl) ?_
                                        refine xl_heavy rfl rfl rfl (hv_call (g := 10) rfl rfl (c10) rfl) ?_
                                        rintro v6_16 H6_16 ⟨rfl, hE6_16⟩
                                        have ma := ma.ext hE6_16
                                        have mb := mb.ext hE6_16
                                        have mc := mc.ext hE6_16
                                        have hX := hX.trans hE6_16
                                        refine xl_pure rfl rfl rfl (pv_pick_t (v := .bool _) rfl rfl rfl) ?_
                                        refine xl_pure rfl rfl rfl (pv_assign (v := .bool _) rfl rfl) ?_
                                        refine xl_nil ?_
                                        refine xthen_normal ?_
                                        refine xc_ret ?_
                                        refine fin_ret (res1 (v := .bool _) rfl rfl) ?_
                                        exact ⟨rfl, hX⟩
                                    · skip
                                      refine xl_pure rfl rfl rfl (pv_move (v := .bool _) rfl rfl) ?_
                                      refine xl_skip rfl rfl rfl ?_
                                      refine xl_skip rfl rfl rfl ?_
                                      refine xl_skip rfl rfl rfl ?_
                                      refine xl_skip rfl rfl rfl ?_
                                      refine xl_pure rfl rfl rfl (pv_pick_f (v := .bool _) rfl rfl rfl) ?_
                                      refine xl_pure rfl rfl rfl (pv_move (v := .bool _) rfl rfl) ?_
                                      refine xl_skip rfl rfl rfl ?_
                                      refine xl_skip rfl rfl rfl ?_
                                      refine xl_skip rfl rfl rfl ?_
                                      refine xl_skip rfl rfl rfl ?_
                                      refine xl_pure rfl rfl rfl (pv_pick_f (v := .bool _) rfl rfl rfl) ?_
                                      refine xl_pure rfl rfl rfl (pv_not rfl rfl) ?_
                                      refine xl_pure rfl rfl rfl (pv_move (v := .bool _) rfl rfl) ?_
                                      refine xl_heavy rfl rfl rfl (hv_call (g := 10) rfl rfl (c10) rfl) ?_
                                      rintro v6_16 H6_16 ⟨rfl, hE6_16⟩
                                      have ma := ma.ext hE6_16
                                      have mb := mb.ext hE6_16
                                      have mc := mc.ext hE6_16
                                      have hX := hX.trans hE6_16
                                      refine xl_pure rfl rfl rfl (pv_pick_t (v := .bool _) rfl rfl rfl) ?_
                                      refine xl_pure rfl rfl rfl (pv_assign (v := .bool _) rfl rfl) ?_
                                      refine xl_nil ?_
                                      refine xthen_normal ?_
                                      refine xc_ret ?_
                                      refine fin_ret (res1 (v := .bool _) rfl rfl) ?_
                                      exact ⟨rfl, hX⟩)
                              · first
                                | (exfalso; omega)
                                |  (skip
                                    refine xl_pure rfl rfl rfl (pv_neq_b rfl rfl rfl) ?_
                                    refine xl_pure rfl rfl rfl (pv_pick_f (v := .bool _) rfl rfl rfl) ?_
                                    refine xl_nil ?_
                                    refine xthen_normal ?_
                                    refine xc_cond_t rfl ?_
                                    refine xc_seq ?_
                                    refine xc_region ?_
                                    refine xl_pure rfl rfl rfl (pv_assign (v := .bool _) rfl rfl) ?_
                                    refine xl_nil ?_
                                    refine xthen_normal ?_
                                    refine xc_ret ?_
                                    refine xthen_ret ?_
                                    refine fin_ret (res1 (v := .bool _) rfl rfl) ?_
                                    exfalso; omega))
                        · first
                          | (exfalso; omega)
                          |  (skip
                              refine xl_pure rfl rfl rfl (pv_move (v := .int _ _) rfl rfl) ?_
                              refine xl_dec rfl rfl rfl (pv_gtr rfl rfl rfl) (fun h4_18 => ?_) (fun h4_18 => ?_)
                              · first
                                | (exfalso; omega)
                                |  (skip
                                    refine xl_pure rfl rfl rfl (pv_neq_b rfl rfl rfl) ?_
                                    refine xl_pure rfl rfl rfl (pv_pick_f (v := .bool _) rfl rfl rfl) ?_
                                    refine xl_nil ?_
                                    refine xthen_normal ?_
                                    refine xc_cond_t rfl ?_
                                    refine xc_seq ?_
                                    refine xc_region ?_
                                    refine xl_pure rfl rfl rfl (pv_assign (v := .bool _) rfl rfl) ?_
                                    refine xl_nil ?_
                                    refine xthen_normal ?_
                                    refine xc_ret ?_
                                    refine xthen_ret ?_
                                    refine fin_ret (res1 (v := .bool _) rfl rfl) ?_
                                    exfalso; omega)
                              · first
                                | (exfalso; omega)
                                |  (skip
                                    refine xl_pure rfl rfl rfl (pv_neq_b rfl rfl rfl) ?_
                                    refine xl_pure rfl rfl rfl (pv_pick_f (v := .bool _) rfl rfl rfl) ?_
                                    refine xl_nil ?_
                                    refine xthen_normal ?_
                                    refine xc_cond_f rfl ?_
                                    refine xc_skip ?_
                                    refine xthen_normal ?_
                                    refine xc_seq ?_
                                    refine xc_region ?_
                                    refine xl_pure rfl rfl rfl (pv_move (v := .int _ _) rfl rfl) ?_
                                    refine xl_dec rfl rfl rfl (pv_leq rfl rfl rfl) (fun h6_1 => ?_) (fun h6_1 => ?_)
                                    · skip
                                      refine xl_pure rfl rfl rfl (pv_move (v := .bool _) rfl rfl) ?_
                                      refine xl_light rfl rfl rfl (lv_load (v := .agg _) rfl rfl (ld_blk_a mb rfl rfl)) ?_
                                      refine xl_light rfl rfl rfl (lv_load (v := .agg _) rfl rfl (ld_blk_a mc rfl rfl)) ?_
                                      refine xl_heavy rfl rfl rfl (hv_call (g := 8) rfl rfl (c8 [x4, x5, x6, x7] [x8, x9, x10, x11] rfl rfl) rfl) ?_
                                      rintro v6_5 H6_5 ⟨rfl, hE6_5⟩
                                      have ma := ma.ext hE6_5
                                      have mb := mb.ext hE6_5
                                      have mc := mc.ext hE6_5
                                      have hX := hX.trans hE6_5
                                      refine xl_dec rfl rfl rfl (pv_leq rfl rfl rfl) (fun h6_6 => ?_) (fun h6_6 => ?_)
                                      · skip
                                        refine xl_pure rfl rfl rfl (pv_pick_t (v := .bool _) rfl rfl rfl) ?_
                                        refine xl_pure rfl rfl rfl (pv_move (v := .bool _) rfl rfl) ?_
                                        refine xl_light rfl rfl rfl (lv_load (v := .agg _) rfl rfl (ld_blk_a ma rfl rfl)) ?_
                                        refine xl_light rfl rfl rfl (lv_load (v := .agg _) rfl rfl (ld_blk_a mc rfl rfl)) ?_
                                        refine xl_heavy rfl rfl rfl (hv_call (g := 8) rfl rfl (c8 [x0, x1, x2, x3] [x8, x9, x10, x11] rfl rfl) rfl) ?_
                                        rintro v6_11 H6_11 ⟨rfl, hE6_11⟩
                                        have ma := ma.ext hE6_11
                                        have mb := mb.ext hE6_11
                                        have mc := mc.ext hE6_11
                                        have hX := hX.trans hE6_11
                                        refine xl_dec rfl rfl rfl (pv_gtr rfl rfl rfl) (fun h6_12 => ?_) (fun h6_12 => ?_)
                                        · exact absurd h6_12 (by have := (kcmp_trans (a := [x0, x1, x2, x3]) (b := [x4, x5, x6, x7]) (c := [x8, x9, x10, x11]) rfl rfl h6_1 h6_6).1; omega)
                                        · skip
                                          refine xl_pure rfl rfl rfl (pv_pick_t (v := .bool _) rfl rfl rfl) ?_
                                          refine xl_pure rfl rfl rfl (pv_not rfl rfl) ?_
                                          refine xl_pure rfl rfl rfl (pv_move (v := .bool _) rfl rfl) ?_
                                          refine xl_heavy rfl rfl rfl (hv_call (g := 10) rfl rfl (c10) rfl) ?_
                                          rintro v6_16 H6_16 ⟨rfl, hE6_16⟩
                                          have ma := ma.ext hE6_16
                                          have mb := mb.ext hE6_16
                                          have mc := mc.ext hE6_16
                                          have hX := hX.trans hE6_16
                                          refine xl_pure rfl rfl rfl (pv_pick_t (v := .bool _) rfl rfl rfl) ?_
                                          refine xl_pure rfl rfl rfl (pv_assign (v := .bool _) rfl rfl) ?_
                                          refine xl_nil ?_
                                          refine xthen_normal ?_
                                          refine xc_ret ?_
                                          refine fin_ret (res1 (v := .bool _) rfl rfl) ?_
                                          exact ⟨rfl, hX⟩
                                      · skip
                                        refine xl_pure rfl rfl rfl (pv_pick_t (v := .bool _) rfl rfl rfl) ?_
                                        refine xl_pure rfl rfl rfl (pv_move (v := .bool _) rfl rfl) ?_
                                        refine xl_skip rfl rfl rfl ?_
                                        refine xl_skip rfl rfl rfl ?_
                                        refine xl_skip rfl rfl rfl ?_
                                        refine xl_skip rfl rfl rfl ?_
                                        refine xl_pure rfl rfl rfl (pv_pick_f (v := .bool _) rfl rfl rfl) ?_
                                        refine xl_pure rfl rfl rfl (pv_not rfl rfl) ?_
                                        refine xl_pure rfl rfl rfl (pv_move (v := .bool _) rfl rfl) ?_
                                        refine xl_heavy rfl rfl rfl (hv_call (g := 10) rfl rfl (c10) rfl) ?_
                                        rintro v6_16 H6_16 ⟨rfl, hE6_16⟩
                                        have ma := ma.ext hE6_16
                                        have mb := mb.ext hE6_16
                                        have mc := mc.ext hE6_16
                                        have hX := hX.trans hE6_16
                                        refine xl_pure rfl rfl rfl (pv_pick_t (v := .bool _) rfl rfl rfl) ?_
                                        refine xl_pure rfl rfl rfl (pv_assign (v := .bool _) rfl rfl) ?_
                                        refine xl_nil ?_
                                        refine xthen_normal ?_
                                        refine xc_ret ?_
                                        refine fin_ret (res1 (v := .bool _) rfl rfl) ?_
                                        exact ⟨rfl, hX⟩
                                    · skip
                                      refine xl_pure rfl rfl rfl (pv_move (v := .bool _) rfl rfl) ?_
                                      refine xl_skip rfl rfl rfl ?_
                                      refine xl_skip rfl rfl rfl ?_
                                      refine xl_skip rfl rfl rfl ?_
                                      refine xl_skip rfl rfl rfl ?_
                                      refine xl_pure rfl rfl rfl (pv_pick_f (v := .bool _) rfl rfl rfl) ?_
                                      refine xl_pure rfl rfl rfl (pv_move (v := .bool _) rfl rfl) ?_
                                      refine xl_skip rfl rfl rfl ?_
                                      refine xl_skip rfl rfl rfl ?_
                                      refine xl_skip rfl rfl rfl ?_
                                      refine xl_skip rfl rfl rfl ?_
                                      refine xl_pure rfl rfl rfl (pv_pick_f (v := .bool _) rfl rfl rfl) ?_
                                      refine xl_pure rfl rfl rfl (pv_not rfl rfl) ?_
                                      refine xl_pure rfl rfl rfl (pv_move (v := .bool _) rfl rfl) ?_
                                      refine xl_heavy rfl rfl rfl (hv_call (g := 10) rfl rfl (c10) rfl) ?_
                                      rintro v6_16 H6_16 ⟨rfl, hE6_16⟩
                                      have ma := ma.ext hE6_16
                                      have mb := mb.ext hE6_16
                                      have mc := mc.ext hE6_16
                                      have hX := hX.trans hE6_16
                                      refine xl_pure rfl rfl rfl (pv_pick_t (v := .bool _) rfl rfl rfl) ?_
                                      refine xl_pure rfl rfl rfl (pv_assign (v := .bool _) rfl rfl) ?_
                                      refine xl_nil ?_
                                      refine xthen_normal ?_
                                      refine xc_ret ?_
                                      refine fin_ret (res1 (v := .bool _) rfl rfl) ?_
                                      exact ⟨rfl, hX⟩)))
                  · first
                    | (exfalso; omega)
                    |  (skip
                        refine xl_pure rfl rfl rfl (pv_neq_b rfl rfl rfl) ?_
                        refine xl_pure rfl rfl rfl (pv_pick_f (v := .bool _) rfl rfl rfl) ?_
                        refine xl_pure rfl rfl rfl (pv_move (v := .bool _) rfl rfl) ?_
                        refine xl_skip rfl rfl rfl ?_
                        refine xl_skip rfl rfl rfl ?_
                        refine xl_skip rfl rfl rfl ?_
                        refine xl_skip rfl rfl rfl ?_
                        refine xl_skip rfl rfl rfl ?_
                        refine xl_skip rfl rfl rfl ?_
                        refine xl_skip rfl rfl rfl ?_
                        refine xl_pure rfl rfl rfl (pv_pick_t (v := .bool _) rfl rfl rfl) ?_
                        refine xl_nil ?_
                        refine xthen_normal ?_
                        refine xc_cond_t rfl ?_
                        refine xc_seq ?_
                        refine xc_region ?_
                        refine xl_pure rfl rfl rfl (pv_assign (v := .bool _) rfl rfl) ?_
                        refine xl_nil ?_
                        refine xthen_normal ?_
                        refine xc_ret ?_
                        refine xthen_ret ?_
                        refine fin_ret (res1 (v := .bool _) rfl rfl) ?_
                        exfalso; omega))
            · first
              | (exfalso; omega)
              |  (skip
                  refine xl_pure rfl rfl rfl (pv_move (v := .int _ _) rfl rfl) ?_
                  refine xl_dec rfl rfl rfl (pv_gtr rfl rfl rfl) (fun h4_9 => ?_) (fun h4_9 => ?_)
                  · first
                    | (exfalso; omega)
                    |  (skip
                        refine xl_pure rfl rfl rfl (pv_neq_b rfl rfl rfl) ?_
                        refine xl_pure rfl rfl rfl (pv_pick_f (v := .bool _) rfl rfl rfl) ?_
                        refine xl_pure rfl rfl rfl (pv_move (v := .bool _) rfl rfl) ?_
                        refine xl_skip rfl rfl rfl ?_
                        refine xl_skip rfl rfl rfl ?_
                        refine xl_skip rfl rfl rfl ?_
                        refine xl_skip rfl rfl rfl ?_
                        refine xl_skip rfl rfl rfl ?_
                        refine xl_skip rfl rfl rfl ?_
                        refine xl_skip rfl rfl rfl ?_
                        refine xl_pure rfl rfl rfl (pv_pick_t (v := .bool _) rfl rfl rfl) ?_
                        refine xl_nil ?_
                        refine xthen_normal ?_
                        refine xc_cond_t rfl ?_
                        refine xc_seq ?_
                        refine xc_region ?_
                        refine xl_pure rfl rfl rfl (pv_assign (v := .bool _) rfl rfl) ?_
                        refine xl_nil ?_
                        refine xthen_normal ?_
                        refine xc_ret ?_
                        refine xthen_ret ?_
                        refine fin_ret (res1 (v := .bool _) rfl rfl) ?_
                        exfalso; omega)
                  · first
                    | (exfalso; omega)
                    |  (skip
                        refine xl_pure rfl rfl rfl (pv_neq_b rfl rfl rfl) ?_
                        refine xl_pure rfl rfl rfl (pv_pick_f (v := .bool _) rfl rfl rfl) ?_
                        refine xl_pure rfl rfl rfl (pv_move (v := .bool _) rfl rfl) ?_
                        refine xl_light rfl rfl rfl (lv_load (v := .agg _) rfl rfl (ld_blk_a mb rfl rfl)) ?_
                        refine xl_light rfl rfl rfl (lv_load (v := .agg _) rfl rfl (ld_blk_a ma rfl rfl)) ?_
                        refine xl_heavy rfl rfl rfl (hv_call (g := 8) rfl rfl (c8 [x4, x5, x6, x7] [x0, x1, x2, x3] rfl rfl) rfl) ?_
                        rintro v4_15 H4_15 ⟨rfl, hE4_15⟩
                        have ma := ma.ext hE4_15
                        have mb := mb.ext hE4_15
                        have mc := mc.ext hE4_15
                        have hX := hX.trans hE4_15
                        refine xl_dec rfl rfl rfl (pv_lss rfl rfl rfl) (fun h4_16 => ?_) (fun h4_16 => ?_)
                        · first
                          | (exfalso; omega)
                          |  (skip
                              refine xl_pure rfl rfl rfl (pv_move (v := .int _ _) rfl rfl) ?_
                              refine xl_dec rfl rfl rfl (pv_gtr rfl rfl rfl) (fun h4_18 => ?_) (fun h4_18 => ?_)
                              · first
                                | (exfalso; omega)
                                |  (skip
                                    refine xl_pure rfl rfl rfl (pv_neq_b rfl rfl rfl) ?_
                                    refine xl_pure rfl rfl rfl (pv_pick_f (v := .bool _) rfl rfl rfl) ?_
                                    refine xl_nil ?_
                                    refine xthen_normal ?_
                                    refine xc_cond_f rfl ?_
                                    refine xc_skip ?_
                                    refine xthen_normal ?_
                                    refine xc_seq ?_
                                    refine xc_region ?_
                                    refine xl_pure rfl rfl rfl (pv_move (v := .int _ _) rfl rfl) ?_
                                    refine xl_dec rfl rfl rfl (pv_leq rfl rfl rfl) (fun h6_1 => ?_) (fun h6_1 => ?_)
                                    · skip
                                      refine xl_pure rfl rfl rfl (pv_move (v := .bool _) rfl rfl) ?_
                                      refine xl_light rfl rfl rfl (lv_load (v := .agg _) rfl rfl (ld_blk_a mb rfl rfl)) ?_
                                      refine xl_light rfl rfl rfl (lv_load (v := .agg _) rfl rfl (ld_blk_a mc rfl rfl)) ?_
                                      refine xl_heavy rfl rfl rfl (hv_call (g := 8) rfl rfl (c8 [x4, x5, x6, x7] [x8, x9, x10, x11] rfl rfl) rfl) ?_
                                      rintro v6_5 H6_5 ⟨rfl, hE6_5⟩
                                      have ma := ma.ext hE6_5
                                      have mb := mb.ext hE6_5
                                      have mc := mc.ext hE6_5
                                      have hX := hX.trans hE6_5
                                      refine xl_dec rfl rfl rfl (pv_leq rfl rfl rfl) (fun h6_6 => ?_) (fun h6_6 => ?_)
                                      · skip
                                        refine xl_pure rfl rfl rfl (pv_pick_t (v := .bool _) rfl rfl rfl) ?_
                                        refine xl_pure rfl rfl rfl (pv_move (v := .bool _) rfl rfl) ?_
                                        refine xl_light rfl rfl rfl (lv_load (v := .agg _) rfl rfl (ld_blk_a ma rfl rfl)) ?_
                                        refine xl_light rfl rfl rfl (lv_load (v := .agg _) rfl rfl (ld_blk_a mc rfl rfl)) ?_
                                        refine xl_heavy rfl rfl rfl (hv_call (g := 8) rfl rfl (c8 [x0, x1, x2, x3] [x8, x9, x10, x11] rfl rfl) rfl) ?_
                                        rintro v6_11 H6_11 ⟨rfl, hE6_11⟩
                                        have ma := ma.ext hE6_11
                                        have mb := mb.ext hE6_11
                                        have mc := mc.ext hE6_11
                                        have hX := hX.trans hE6_11
                                        refine xl_dec rfl rfl rfl (pv_gtr rfl rfl rfl) (fun h6_12 => ?_) (fun h6_12 => ?_)
                                        · exact absurd h6_12 (by have := (kcmp_trans (a := [x0, x1, x2, x3]) (b := [x4, x5, x6, x7]) (c := [x8, x9, x10, x11]) rfl rfl h6_1 h6_6).1; omega)
                                        · skip
                                          refine xl_pure rfl rfl rfl (pv_pick_t (v := .bool _) rfl rfl rfl) ?_
                                          refine xl_pure rfl rfl rfl (pv_not rfl rfl) ?_
                                          refine xl_pure rfl rfl rfl (pv_move (v := .bool _) rfl rfl) ?_
                                          refine xl_heavy rfl rfl rfl (hv_call (g := 10) rfl rfl (c10) rfl) ?_
                                          rintro v6_16 H6_16 ⟨rfl, hE6_16⟩
                                          have ma := ma.ext hE6_16
                                          have mb := mb.ext hE6_16
                                          have mc := mc.ext hE6_16
                                          have hX := hX.trans hE6_16
                                          refine xl_pure rfl rfl rfl (pv_pick_t (v := .bool _) rfl rfl rfl) ?_
                                          refine xl_pure rfl rfl rfl (pv_assign (v := .bool _) rfl rfl) ?_
                                          refine xl_nil ?_
                                          refine xthen_normal ?_
                                          refine xc_ret ?_
                                          refine fin_ret (res1 (v := .bool _) rfl rfl) ?_
                                          exact ⟨rfl, hX⟩
                                      · skip
                                        refine xl_pure rfl rfl rfl (pv_pick_t (v := .bool _) rfl rfl rfl) ?_
                                        refine xl_pure rfl rfl rfl (pv_move (v := .bool _) rfl rfl) ?_
                                        refine xl_skip rfl rfl rfl ?_
                                        refine xl_skip rfl rfl rfl ?_
                                        refine xl_skip rfl rfl rfl ?_
                                        refine xl_skip rfl rfl rfl ?_
                                        refine xl_pure rfl rfl rfl (pv_pick_f (v := .bool _) rfl rfl rfl) ?_
                                        refine xl_pure rfl rfl rfl (pv_not rfl rfl) ?_
                                        refine xl_pure rfl rfl rfl (pv_move (v := .bool _) rfl rfl) ?_
                                        refine xl_heavy rfl rfl rfl (hv_call (g := 10) rfl rfl (c10) rfl) ?_
                                        rintro v6_16 H6_16 ⟨rfl, hE6_16⟩
                                        have ma := ma.ext hE6_16
                                        have mb := mb.ext hE6_16
                                        have mc := mc.ext hE6_16
                                        have hX := hX.trans hE6_16
                                        refine xl_pure rfl rfl rfl (pv_pick_t (v := .bool _) rfl rfl rfl) ?_
                                        refine xl_pure rfl rfl rfl (pv_assign (v := .bool _) rfl rfl) ?_
                                        refine xl_nil ?_
                                        refine xthen_normal ?_
                                        refine xc_ret ?_
                                        refine fin_ret (res1 (v := .bool _) rfl rfl) ?_
                                        exact ⟨rfl, hX⟩
                                    · skip
                                      refine xl_pure rfl rfl rfl (pv_move (v := .bool _) rfl rfl) ?_
                                      refine xl_skip rfl rfl rfl ?_
                                      refine xl_skip rfl rfl rfl ?_
                                      refine xl_skip rfl rfl rfl ?_
                                      refine xl_skip rfl rfl rfl ?_
                                      refine xl_pure rfl rfl rfl (pv_pick_f (v := .bool _) rfl rfl rfl) ?_
                                      refine xl_pure rfl rfl rfl (pv_move (v := .bool _) rfl rfl) ?_
                                      refine xl_skip rfl rfl rfl ?_
                                      refine xl_skip rfl rfl rfl ?_
                                      refine xl_skip rfl rfl rfl ?_
                                      refine xl_skip rfl rfl rfl ?_
                                      refine xl_pure rfl rfl rfl (pv_pick_f (v := .bool _) rfl rfl rfl) ?_
                                      refine xl_pure rfl rfl rfl (pv_not rfl rfl) ?_
                                      refine xl_pure rfl rfl rfl (pv_move (v := .bool _) rfl rfl) ?_
                                      refine xl_heavy rfl rfl rfl (hv_call (g := 10) rfl rfl (c10) rfl) ?_
                                      rintro v6_16 H6_16 ⟨rfl, hE6_16⟩
                                      have ma := ma.ext hE6_16
                                      have mb := mb.ext hE6_16
                                      have mc := mc.ext hE6_16
                                      have hX := hX.trans hE6_16
                                      refine xl_pure rfl rfl rfl (pv_pick_t (v := .bool _) rfl rfl rfl) ?_
                                      refine xl_pure rfl rfl rfl (pv_assign (v := .bool _) rfl rfl) ?_
                                      refine xl_nil ?_
                                      refine xthen_normal ?_
                                      refine xc_ret ?_
                                      refine fin_ret (res1 (v := .bool _) rfl rfl) ?_
                                      exact ⟨rfl, hX⟩)
                              · first
                                | (exfalso; omega)
                                |  (skip
                                    refine xl_pure rfl rfl rfl (pv_neq_b rfl rfl rfl) ?_
                                    refine xl_pure rfl rfl rfl (pv_pick_f (v := .bool _) rfl rfl rfl) ?_
                                    refine xl_nil ?_
                                    refine xthen_normal ?_
                                    refine xc_cond_t rfl ?_
                                    refine xc_seq ?_
                                    refine xc_region ?_
                                    refine xl_pure rfl rfl rfl (pv_assign (v := .bool _) rfl rfl) ?_
                                    refine xl_nil ?_
                                    refine xthen_normal ?_
                                    refine xc_ret ?_
                                    refine xthen_ret ?_
                                    refine fin_ret (res1 (v := .bool _) rfl rfl) ?_
                                    exfalso; omega))
                        · first
                          | (exfalso; omega)
                          |  (skip
                              refine xl_pure rfl rfl rfl (pv_move (v := .int _ _) rfl rfl) ?_
                              refine xl_dec rfl rfl rfl (pv_gtr rfl rfl rfl) (fun h4_18 => ?_) (fun h4_18 => ?_)
                              · first
                                | (exfalso; omega)
                                |  (skip
                                    refine xl_pure rfl rfl rfl (pv_neq_b rfl rfl rfl) ?_
                                    refine xl_pure rfl rfl rfl (pv_pick_f (v := .bool _) rfl rfl rfl) ?_
                                    refine xl_nil ?_
                                    refine xthen_normal ?_
                                    refine xc_cond_t rfl ?_
                                    refine xc_seq ?_
                                    refine xc_region ?_
                                    refine xl_pure rfl rfl rfl (pv_assign (v := .bool _) rfl rfl) ?_
                                    refine xl_nil ?_
                                    refine xthen_normal ?_
                                    refine xc_ret ?_
                                    refine xthen_ret ?_
                                    refine fin_ret (res1 (v := .bool _) rfl rfl) ?_
                                    exfalso; omega)
                              · first
                                | (exfalso; omega)
                                |  (skip
                                    refine xl_pure rfl rfl rfl (pv_neq_b rfl rfl rfl) ?_
                                    refine xl_pure rfl rfl rfl (pv_pick_f (v := .bool _) rfl rfl rfl) ?_
                                    refine xl_nil ?_
                                    refine xthen_normal ?_
                                    refine xc_cond_f rfl ?_
                                    refine xc_skip ?_
                                    refine xthen_normal ?_
                                    refine xc_seq ?_
                                    refine xc_region ?_
                                    refine xl_pure rfl rfl rfl (pv_move (v := .int _ _) rfl rfl) ?_
                                    refine xl_dec rfl rfl rfl (pv_leq rfl rfl rfl) (fun h6_1 => ?_) (fun h6_1 => ?_)
                                    · skip
                                      refine xl_pure rfl rfl rfl (pv_move (v := .bool _) rfl rfl) ?_
                                      refine xl_light rfl rfl rfl (lv_load (v := .agg _) rfl rfl (ld_blk_a mb rfl rfl)) ?_
                                      refine xl_light rfl rfl rfl (lv_load (v := .agg _) rfl rfl (ld_blk_a mc rfl rfl)) ?_
                                      refine xl_heavy rfl rfl rfl (hv_call (g := 8) rfl rfl (c8 [x4, x5, x6, x7] [x8, x9, x10, x11] rfl rfl) rfl) ?_
                                      rintro v6_5 H6_5 ⟨rfl, hE6_5⟩
                                      have ma := ma.ext hE6_5
                                      have mb := mb.ext hE6_5
                                      have mc := mc.ext hE6_5
                                      have hX := hX.trans hE6_5
                                      refine xl_dec rfl rfl rfl (pv_leq rfl rfl rfl) (fun h6_6 => ?_) (fun h6_6 => ?_)
                                      · skip
                                        refine xl_pure rfl rfl rfl (pv_pick_t (v := .bool _) rfl rfl rfl) ?_
                                        refine xl_pure rfl rfl rfl (pv_move (v := .bool _) rfl rfl) ?_
                                        refine xl_light rfl rfl rfl (lv_load (v := .agg _) rfl rfl (ld_blk_a ma rfl rfl)) ?_
                                        refine xl_light rfl rfl rfl (lv_load (v := .agg _) rfl rfl (ld_blk_a mc rfl rfl)) ?_
                                        refine xl_heavy rfl rfl rfl (hv_call (g := 8) rfl rfl (c8 [x0, x1, x2, x3] [x8, x9, x10, x11] rfl rfl) rfl) ?_
                                        rintro v6_11 H6_11 ⟨rfl, hE6_11⟩
                                        have ma := ma.ext hE6_11
                                        have mb := mb.ext hE6_11
                                        have mc := mc.ext hE6_11
                                        have hX := hX.trans hE6_11
                                        refine xl_dec rfl rfl rfl (pv_gtr rfl rfl rfl) (fun h6_12 => ?_) (fun h6_12 => ?_)
                                        · exact absurd h6_12 (by have := (kcmp_trans (a := [x0, x1, x2, x3]) (b := [x4, x5, x6, x7]) (c := [x8, x9, x10, x11]) rfl rfl h6_1 h6_6).1; omega)
                                        · skip
                                          refine xl_pure rfl rfl rfl (pv_pick_t (v := .bool _) rfl rfl rfl) ?_
                                          refine xl_pure rfl rfl rfl (pv_not rfl rfl) ?_
                                          refine xl_pure rfl rfl rfl (pv_move (v := .bool _) rfl rfl) ?_
                                          refine xl_heavy rfl rfl rfl (hv_call (g := 10) rfl rfl (c10) rfl) ?_
                                          rintro v6_16 H6_16 ⟨rfl, hE6_16⟩
                                          have ma := ma.ext hE6_16
                                          have mb := mb.ext hE6_16
                                          have mc := mc.ext hE6_16
                                          have hX := hX.trans hE6_16
                                          refine xl_pure rfl rfl rfl (pv_pick_t (v := .bool _) rfl rfl rfl) ?_
                                          refine xl_pure rfl rfl rfl (pv_assign (v := .bool _) rfl rfl) ?_
                                          refine xl_nil ?_
                                          refine xthen_normal ?_
                                          refine xc_ret ?_
                                          refine fin_ret (res1 (v := .bool _) rfl rfl) ?_
                                          exact ⟨rfl, hX⟩
                                      · skip
                                        refine xl_pure rfl rfl rfl (pv_pick_t (v := .bool _) rfl rfl rfl) ?_
                                        refine xl_pure rfl rfl rfl (pv_move (v := .bool _) rfl rfl) ?_
                                        refine xl_skip rfl rfl rfl ?_
                                        refine xl_skip rfl rfl rfl ?_
                                        refine xl_skip rfl rfl rfl ?_
                                        refine xl_skip rfl rfl rfl ?_
                                        refine xl_pure rfl rfl rfl (pv_pick_f (v := .bool _) rfl rfl rfl) ?_
                                        refine xl_pure rfl rfl rfl (pv_not rfl rfl) ?_
                                        refine xl_pure rfl rfl rfl (pv_move (v := .bool _) rfl rfl) ?_
                                        refine xl_heavy rfl rfl rfl (hv_call (g := 10) rfl rfl (c10) rfl) ?_
                                        rintro v6_16 H6_16 ⟨rfl, hE6_16⟩
                                        have ma := ma.ext hE6_16
                                        have mb := mb.ext hE6_16
                                        have mc := mc.ext hE6_16
                                        have hX := hX.trans hE6_16
                                        refine xl_pure rfl rfl rfl (pv_pick_t (v := .bool _) rfl rfl rfl) ?_
                                        refine xl_pure rfl rfl rfl (pv_assign (v := .bool _) rfl rfl) ?_
                                        refine xl_nil ?_
                                        refine xthen_normal ?_
                                        refine xc_ret ?_
                                        refine fin_ret (res1 (v := .bool _) rfl rfl) ?_
                                        exact ⟨rfl, hX⟩
                                    · skip
                                      refine xl_pure rfl rfl rfl (pv_move (v := .bool _) rfl rfl) ?_
                                      refine xl_skip rfl rfl rfl ?_
                                      refine xl_skip rfl rfl rfl ?_
                                      refine xl_skip rfl rfl rfl ?_
                                      refine xl_skip rfl rfl rfl ?_
                                      refine xl_pure rfl rfl rfl (pv_pick_f (v := .bool _) rfl rfl rfl) ?_
                                      refine xl_pure rfl rfl rfl (pv_move (v := .bool _) rfl rfl) ?_
                                      refine xl_skip rfl rfl rfl ?_
                                      refine xl_skip rfl rfl rfl ?_
                                      refine xl_skip rfl rfl rfl ?_
                                      refine xl_skip rfl rfl rfl ?_
                                      refine xl_pure rfl rfl rfl (pv_pick_f (v := .bool _) rfl rfl rfl) ?_
                                      refine xl_pure rfl rfl rfl (pv_not rfl rfl) ?_
                                      refine xl_pure rfl rfl rfl (pv_move (v := .bool _) rfl rfl) ?_
                                      refine xl_heavy rfl rfl rfl (hv_call (g := 10) rfl rfl (c10) rfl) ?_
                                      rintro v6_16 H6_16 ⟨rfl, hE6_16⟩
                                      have ma := ma.ext hE6_16
                                      have mb := mb.ext hE6_16
                                      have mc := mc.ext hE6_16
                                      have hX := hX.trans hE6_16
                                      refine xl_pure rfl rfl rfl (pv_pick_t (v := .bool _) rfl rfl rfl) ?_
                                      refine xl_pure rfl rfl rfl (pv_assign (v := .bool _) rfl rfl) ?_
                                      refine xl_nil ?_
                                      refine xthen_normal ?_
                                      refine xc_ret ?_
                                      refine fin_ret (res1 (v := .bool _) rfl rfl) ?_
                                      exact ⟨rfl, hX⟩)))))
end Go.XG
