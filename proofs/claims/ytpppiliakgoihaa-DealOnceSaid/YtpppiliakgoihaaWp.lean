/-
  Walks of the seat's functions over the logic XG: each function, what it computes. Printed by a program out of wip/walks.py.
-/
import Derived.Test.YtpppiliakgoihaaI
import Derived.Test.YtpppiliakgoihaaG
import Derived.Test.YtpppiliakgoihaaP
import Derived.Test.YtpppiliakgoihaaWa
import Derived.Test.YtpppiliakgoihaaWb
import Derived.Test.YtpppiliakgoihaaWc
import Derived.Test.YtpppiliakgoihaaWd
import Derived.Test.YtpppiliakgoihaaQ
import Derived.Test.YtpppiliakgoihaaR
import Derived.Test.YtpppiliakgoihaaXg
import Derived.Test.YtpppiliakgoihaaWe
import Derived.Test.YtpppiliakgoihaaWf
import Derived.Test.YtpppiliakgoihaaWg
import Derived.Test.YtpppiliakgoihaaWh
import Derived.Test.YtpppiliakgoihaaWi
import Derived.Test.YtpppiliakgoihaaWj
import Derived.Test.YtpppiliakgoihaaWk
import Derived.Test.YtpppiliakgoihaaV
import Derived.Test.YtpppiliakgoihaaXh
import Derived.Test.YtpppiliakgoihaaWl
import Derived.Test.YtpppiliakgoihaaWm
import Derived.Test.YtpppiliakgoihaaWn
import Derived.Test.YtpppiliakgoihaaU
import Derived.Test.YtpppiliakgoihaaWo
namespace Go.XG
open Go.Proofs
set_option maxRecDepth 4000
set_option maxHeartbeats 4000000
theorem c3 {O : Outer} {H : Heap} (d : D) (a b : Option Addr) (c e : Nat) (n0 n1 n2 : Int) (hs : Stks H a d.gives) (hs' : Stks H b d.wants) :
    FnC Try.prog 3 #[.agg (dcs d a b c e).toArray, .agg #[.int .i64 n0, .int .i64 n1, .int .i64 n2]] O H (fun v H' => v = .bool true ∧ Ext H H') := by
  refine fn_enter (A := [.agg (dcs d a b c e).toArray, .agg #[.int .i64 n0, .int .i64 n1, .int .i64 n2]]) Try.func3 rfl rfl ?_
  have hX := Ext.refl H
  refine xc_seq ?_
  refine xc_region ?_
  refine xl_heavy rfl rfl rfl (hv_box rfl rfl) ?_
  rintro v0_0 H0_0 ⟨b0_0, rfl, hN0_0⟩
  have gb0_0 := hX.fresh hN0_0
  have hX := hX.trans hN0_0.ext
  have m0_0 := hN0_0.blk
  refine xl_heavy rfl rfl rfl (hv_box rfl rfl) ?_
  rintro v0_1 H0_1 ⟨b0_1, rfl, hN0_1⟩
  have gb0_1 := hX.fresh hN0_1
  have nm0_0_0_1 := m0_0.apart hN0_1
  have m0_0 := m0_0.ext hN0_1.ext
  have hX := hX.trans hN0_1.ext
  have m0_1 := hN0_1.blk
  refine xl_pure rfl rfl rfl (pv_assign (v := .bool _) rfl rfl) ?_
  refine xl_nil ?_
  refine xthen_normal ?_
  refine xc_seq ?_
  refine xc_seq ?_
  refine xc_region ?_
  refine xl_light rfl rfl rfl (lv_load (v := .agg _) rfl rfl (ld_blk_a m0_0 rfl rfl)) ?_
  refine xl_heavy rfl rfl rfl (hv_call (g := 6) rfl rfl (c6 d a b c e) rfl) ?_
  rintro v1_1 H1_1 ⟨r1_1, rfl, hb1_1, hE1_1⟩
  have m0_0 := m0_0.ext hE1_1
  have m0_1 := m0_1.ext hE1_1
  have hX := hX.trans hE1_1
  cases r1_1
  · skip
    replace hb1_1 := mt hb1_1.2 (by decide)
    refine xl_pure rfl rfl rfl (pv_not rfl rfl) ?_
    refine xl_nil ?_
    refine xthen_normal ?_
    refine xc_cond_t rfl ?_
    refine xc_seq ?_
    refine xc_region ?_
    refine xl_heavy rfl rfl rfl (hv_call (g := 7) rfl rfl (c7) rfl) ?_
    rintro v2_0 H2_0 ⟨rfl, hE2_0⟩
    have m0_0 := m0_0.ext hE2_0
    have m0_1 := m0_1.ext hE2_0
    have hX := hX.trans hE2_0
    refine xl_pure rfl rfl rfl (pv_assign (v := .bool _) rfl rfl) ?_
    refine xl_nil ?_
    refine xthen_normal ?_
    refine xc_ret ?_
    refine xthen_ret ?_
    refine fin_ret (res1 (v := .bool _) rfl rfl) ?_
    exact ⟨rfl, hX⟩
  · skip
    replace hb1_1 := hb1_1.1 rfl
    refine xl_pure rfl rfl rfl (pv_not rfl rfl) ?_
    refine xl_nil ?_
    refine xthen_normal ?_
    refine xc_cond_f rfl ?_
    refine xc_skip ?_
    refine xthen_normal ?_
    refine xc_seq ?_
    refine xc_region ?_
    refine xl_light rfl rfl rfl (lv_load (v := .agg _) rfl rfl (ld_blk_a m0_0 rfl rfl)) ?_
    refine xl_pure rfl rfl rfl (pv_indexAddr_a rfl rfl rfl (by omega)) ?_
    refine xl_light rfl rfl rfl (lv_load (v := .int _ _) rfl rfl (ld_blk m0_1 rfl)) ?_
    refine xl_heavy rfl rfl rfl (hv_call (g := 8) rfl rfl (c8 d a b c e n0 (hs.ext hX) (hs'.ext hX) (by omega) (by omega)) rfl) ?_
    rintro v3_3 H3_3 ⟨r3_3, x3_3, a3_3, b3_3, c3_3, e3_3, rfl, hd3_3, hs3_3, hE3_3⟩
    have m0_0 := m0_0.ext hE3_3
    have m0_1 := m0_1.ext hE3_3
    have hX := hX.trans hE3_3
    refine xl_pure rfl rfl rfl (pv_move (v := .tuple _) rfl rfl) ?_
    refine xl_pure rfl rfl rfl (pv_extract (v := .agg _) rfl rfl rfl) ?_
    refine xl_pure rfl rfl rfl (pv_extract (v := .int _ _) rfl rfl rfl) ?_
    refine xl_heavy rfl rfl rfl (hv_alloc rfl rfl) ?_
    rintro v3_7 H3_7 ⟨b3_7, rfl, hN3_7⟩
    have gb3_7 := hX.fresh hN3_7
    have nm0_0_3_7 := m0_0.apart hN3_7
    have nm0_1_3_7 := m0_1.apart hN3_7
    have m0_0 := m0_0.ext hN3_7.ext
    have m0_1 := m0_1.ext hN3_7.ext
    have hX := hX.trans hN3_7.ext
    have m3_7 := hN3_7.blk
    refine xl_store rfl rfl (hv_storeA (vs := [.int _ _, .int _ _, .int _ _, .int _ _, .int _ _, .int _ _, .int _ _, .int _ _, .int _ _, .int _ _, .int _ _, .int _ _, .int _ _, .slice _ _ _, .slice _ _ _, .int _ _, .int _ _, .int _ _, .int _ _]) rfl rfl rfl (m3_7) rfl (by rfl) rfl) ?_
    rintro v3_8 H3_8 ⟨hU3_8, hZ3_8⟩
    have m0_0 := m0_0.off hU3_8.but (nm0_0_3_7)
    have m0_1 := m0_1.off hU3_8.but (nm0_1_3_7)
    have hX := hX.upd hU3_8.but gb3_7
    have m3_7 := hU3_8.blk
    refine xl_pure rfl rfl rfl (pv_assign (v := .int _ _) rfl rfl) ?_
    refine xl_nil ?_
    refine xthen_normal ?_
    refine xc_seq ?_
    refine xc_region ?_
    refine xl_light rfl rfl rfl (lv_load (v := .agg _) rfl rfl (ld_blk_a m0_0 rfl rfl)) ?_
    refine xl_pure rfl rfl rfl (pv_indexAddr_a rfl rfl rfl (by omega)) ?_
    refine xl_light rfl rfl rfl (lv_load (v := .int _ _) rfl rfl (ld_blk m0_1 rfl)) ?_
    refine xl_heavy rfl rfl rfl (hv_call (g := 9) rfl rfl (c9 d a b c e n0 (hs.ext hX) (hs'.ext hX) (by omega) (by omega)) rfl) ?_
    rintro v4_3 H4_3 ⟨r4_3, x4_3, a4_3, b4_3, c4_3, e4_3, rfl, hd4_3, hs4_3, hE4_3⟩
    have m0_0 := m0_0.ext hE4_3
    have m0_1 := m0_1.ext hE4_3
    have m3_7 := m3_7.ext hE4_3
    have hX := hX.trans hE4_3
    have q4_3 := hd3_3.trans hd4_3.symm
    simp only [Prod.mk.injEq] at q4_3
    obtain ⟨rfl, rfl⟩ := q4_3
    refine xl_pure rfl rfl rfl (pv_move (v := .tuple _) rfl rfl) ?_
    refine xl_pure rfl rfl rfl (pv_extract (v := .agg _) rfl rfl rfl) ?_
    refine xl_pure rfl rfl rfl (pv_extract (v := .int _ _) rfl rfl rfl) ?_
    refine xl_heavy rfl rfl rfl (hv_alloc rfl rfl) ?_
    rintro v4_7 H4_7 ⟨b4_7, rfl, hN4_7⟩
    have gb4_7 := hX.fresh hN4_7
    have nm0_0_4_7 := m0_0.apart hN4_7
    have nm0_1_4_7 := m0_1.apart hN4_7
    have nm3_7_4_7 := m3_7.apart hN4_7
    have m0_0 := m0_0.ext hN4_7.ext
    have m0_1 := m0_1.ext hN4_7.ext
    have m3_7 := m3_7.ext hN4_7.ext
    have hX := hX.trans hN4_7.ext
    have m4_7 := hN4_7.blk
    refine xl_store rfl rfl (hv_storeA (vs := [.int _ _, .int _ _, .int _ _, .int _ _, .int _ _, .int _ _, .int _ _, .int _ _, .int _ _, .int _ _, .int _ _, .int _ _, .int _ _, .slice _ _ _, .slice _ _ _, .int _ _, .int _ _, .int _ _, .int _ _]) rfl rfl rfl (m4_7) rfl (by rfl) rfl) ?_
    rintro v4_8 H4_8 ⟨hU4_8, hZ4_8⟩
    have m0_0 := m0_0.off hU4_8.but (nm0_0_4_7)
    have m0_1 := m0_1.off hU4_8.but (nm0_1_4_7)
    have m3_7 := m3_7.off hU4_8.but (nm3_7_4_7)
    have hX := hX.upd hU4_8.but gb4_7
    have m4_7 := hU4_8.blk
    refine xl_pure rfl rfl rfl (pv_assign (v := .int _ _) rfl rfl) ?_
    refine xl_nil ?_
    refine xthen_normal ?_
    refine xc_seq ?_
    refine xc_region ?_
    refine xl_light rfl rfl rfl (lv_load (v := .agg _) rfl rfl (ld_blk_a m0_0 rfl rfl)) ?_
    refine xl_pure rfl rfl rfl (pv_indexAddr_a rfl rfl rfl (by omega)) ?_
    refine xl_light rfl rfl rfl (lv_load (v := .int _ _) rfl rfl (ld_blk m0_1 rfl)) ?_
    refine xl_pure rfl rfl rfl (pv_indexAddr_a rfl rfl rfl (by omega)) ?_
    refine xl_light rfl rfl rfl (lv_load (v := .int _ _) rfl rfl (ld_blk m0_1 rfl)) ?_
    refine xl_pure rfl rfl rfl (pv_indexAddr_a rfl rfl rfl (by omega)) ?_
    refine xl_light rfl rfl rfl (lv_load (v := .int _ _) rfl rfl (ld_blk m0_1 rfl)) ?_
    refine xl_heavy rfl rfl rfl (hv_call (g := 10) rfl rfl (c10 d a b c e n0 n1 n2 (hs.ext hX) (hs'.ext hX) (by omega) (by omega)) rfl) ?_
    rintro v5_7 H5_7 ⟨r5_7, x5_7, a5_7, b5_7, c5_7, e5_7, rfl, hd5_7, hs5_7, hE5_7⟩
    have m0_0 := m0_0.ext hE5_7
    have m0_1 := m0_1.ext hE5_7
    have m3_7 := m3_7.ext hE5_7
    have m4_7 := m4_7.ext hE5_7
    have hX := hX.trans hE5_7
    refine xl_pure rfl rfl rfl (pv_move (v := .tuple _) rfl rfl) ?_
    refine xl_pure rfl rfl rfl (pv_extract (v := .agg _) rfl rfl rfl) ?_
    refine xl_pure rfl rfl rfl (pv_extract (v := .int _ _) rfl rfl rfl) ?_
    refine xl_heavy rfl rfl rfl (hv_alloc rfl rfl) ?_
    rintro v5_11 H5_11 ⟨b5_11, rfl, hN5_11⟩
    have gb5_11 := hX.fresh hN5_11
    have nm0_0_5_11 := m0_0.apart hN5_11
    have nm0_1_5_11 := m0_1.apart hN5_11
    have nm3_7_5_11 := m3_7.apart hN5_11
    have nm4_7_5_11 := m4_7.apart hN5_11
    have m0_0 := m0_0.ext hN5_11.ext
    have m0_1 := m0_1.ext hN5_11.ext
    have m3_7 := m3_7.ext hN5_11.ext
    have m4_7 := m4_7.ext hN5_11.ext
    have hX := hX.trans hN5_11.ext
    have m5_11 := hN5_11.blk
    refine xl_store rfl rfl (hv_storeA (vs := [.int _ _, .int _ _, .int _ _, .int _ _, .int _ _, .int _ _, .int _ _, .int _ _, .int _ _, .int _ _, .int _ _, .int _ _, .int _ _, .slice _ _ _, .slice _ _ _, .int _ _, .int _ _, .int _ _, .int _ _]) rfl rfl rfl (m5_11) rfl (by rfl) rfl) ?_
    rintro v5_12 H5_12 ⟨hU5_12, hZ5_12⟩
    have m0_0 := m0_0.off hU5_12.but (nm0_0_5_11)
    have m0_1 := m0_1.off hU5_12.but (nm0_1_5_11)
    have m3_7 := m3_7.off hU5_12.but (nm3_7_5_11)
    have m4_7 := m4_7.off hU5_12.but (nm4_7_5_11)
    have hX := hX.upd hU5_12.but gb5_11
    have m5_11 := hU5_12.blk
    refine xl_pure rfl rfl rfl (pv_assign (v := .int _ _) rfl rfl) ?_
    refine xl_nil ?_
    refine xthen_normal ?_
    refine xc_seq ?_
    refine xc_region ?_
    refine xl_light rfl rfl rfl (lv_load (v := .agg _) rfl rfl (ld_blk_a m0_0 rfl rfl)) ?_
    refine xl_pure rfl rfl rfl (pv_indexAddr_a rfl rfl rfl (by omega)) ?_
    refine xl_light rfl rfl rfl (lv_load (v := .int _ _) rfl rfl (ld_blk m0_1 rfl)) ?_
    refine xl_pure rfl rfl rfl (pv_indexAddr_a rfl rfl rfl (by omega)) ?_
    refine xl_light rfl rfl rfl (lv_load (v := .int _ _) rfl rfl (ld_blk m0_1 rfl)) ?_
    refine xl_pure rfl rfl rfl (pv_indexAddr_a rfl rfl rfl (by omega)) ?_
    refine xl_light rfl rfl rfl (lv_load (v := .int _ _) rfl rfl (ld_blk m0_1 rfl)) ?_
    refine xl_heavy rfl rfl rfl (hv_call (g := 11) rfl rfl (c11 d a b c e n0 n1 n2 (hs.ext hX) (hs'.ext hX) (by omega) (by omega)) rfl) ?_
    rintro v6_7 H6_7 ⟨r6_7, x6_7, a6_7, b6_7, c6_7, e6_7, rfl, hd6_7, hs6_7, hE6_7⟩
    have m0_0 := m0_0.ext hE6_7
    have m0_1 := m0_1.ext hE6_7
    have m3_7 := m3_7.ext hE6_7
    have m4_7 := m4_7.ext hE6_7
    have m5_11 := m5_11.ext hE6_7
    have hX := hX.trans hE6_7
    have q6_7 := hd5_7.trans hd6_7.symm
    simp only [Prod.mk.injEq] at q6_7
    obtain ⟨rfl, rfl⟩ := q6_7
    refine xl_pure rfl rfl rfl (pv_move (v := .tuple _) rfl rfl) ?_
    refine xl_pure rfl rfl rfl (pv_extract (v := .agg _) rfl rfl rfl) ?_
    refine xl_pure rfl rfl rfl (pv_extract (v := .int _ _) rfl rfl rfl) ?_
    refine xl_heavy rfl rfl rfl (hv_alloc rfl rfl) ?_
    rintro v6_11 H6_11 ⟨b6_11, rfl, hN6_11⟩
    have gb6_11 := hX.fresh hN6_11
    have nm0_0_6_11 := m0_0.apart hN6_11
    have nm0_1_6_11 := m0_1.apart hN6_11
    have nm3_7_6_11 := m3_7.apart hN6_11
    have nm4_7_6_11 := m4_7.apart hN6_11
    have nm5_11_6_11 := m5_11.apart hN6_11
    have m0_0 := m0_0.ext hN6_11.ext
    have m0_1 := m0_1.ext hN6_11.ext
    have m3_7 := m3_7.ext hN6_11.ext
    have m4_7 := m4_7.ext hN6_11.ext
    have m5_11 := m5_11.ext hN6_11.ext
    have hX := hX.trans hN6_11.ext
    have m6_11 := hN6_11.blk
    refine xl_store rfl rfl (hv_storeA (vs := [.int _ _, .int _ _, .int _ _, .int _ _, .int _ _, .int _ _, .int _ _, .int _ _, .int _ _, .int _ _, .int _ _, .int _ _, .int _ _, .slice _ _ _, .slice _ _ _, .int _ _, .int _ _, .int _ _, .int _ _]) rfl rfl rfl (m6_11) rfl (by rfl) rfl) ?_
    rintro v6_12 H6_12 ⟨hU6_12, hZ6_12⟩
    have m0_0 := m0_0.off hU6_12.but (nm0_0_6_11)
    have m0_1 := m0_1.off hU6_12.but (nm0_1_6_11)
    have m3_7 := m3_7.off hU6_12.but (nm3_7_6_11)
    have m4_7 := m4_7.off hU6_12.but (nm4_7_6_11)
    have m5_11 := m5_11.off hU6_12.but (nm5_11_6_11)
    have hX := hX.upd hU6_12.but gb6_11
    have m6_11 := hU6_12.blk
    refine xl_pure rfl rfl rfl (pv_assign (v := .int _ _) rfl rfl) ?_
    refine xl_nil ?_
    refine xthen_normal ?_
    refine xc_seq ?_
    refine xc_region ?_
    refine xl_light rfl rfl rfl (lv_load (v := .agg _) rfl rfl (ld_blk_a m0_0 rfl rfl)) ?_
    refine xl_pure rfl rfl rfl (pv_indexAddr_a rfl rfl rfl (by omega)) ?_
    refine xl_light rfl rfl rfl (lv_load (v := .int _ _) rfl rfl (ld_blk m0_1 rfl)) ?_
    refine xl_heavy rfl rfl rfl (hv_call (g := 12) rfl rfl (c12 d a b c e n1 (hs.ext hX) (hs'.ext hX) (by omega) (by omega)) rfl) ?_
    rintro v7_3 H7_3 ⟨r7_3, x7_3, a7_3, b7_3, c7_3, e7_3, rfl, hd7_3, hs7_3, hE7_3⟩
    have m0_0 := m0_0.ext hE7_3
    have m0_1 := m0_1.ext hE7_3
    have m3_7 := m3_7.ext hE7_3
    have m4_7 := m4_7.ext hE7_3
    have m5_11 := m5_11.ext hE7_3
    have m6_11 := m6_11.ext hE7_3
    have hX := hX.trans hE7_3
    refine xl_pure rfl rfl rfl (pv_move (v := .tuple _) rfl rfl) ?_
    refine xl_pure rfl rfl rfl (pv_extract (v := .agg _) rfl rfl rfl) ?_
    refine xl_pure rfl rfl rfl (pv_extract (v := .int _ _) rfl rfl rfl) ?_
    refine xl_heavy rfl rfl rfl (hv_alloc rfl rfl) ?_
    rintro v7_7 H7_7 ⟨b7_7, rfl, hN7_7⟩
    have gb7_7 := hX.fresh hN7_7
    have nm0_0_7_7 := m0_0.apart hN7_7
    have nm0_1_7_7 := m0_1.apart hN7_7
    have nm3_7_7_7 := m3_7.apart hN7_7
    have nm4_7_7_7 := m4_7.apart hN7_7
    have nm5_11_7_7 := m5_11.apart hN7_7
    have nm6_11_7_7 := m6_11.apart hN7_7
    have m0_0 := m0_0.ext hN7_7.ext
    have m0_1 := m0_1.ext hN7_7.ext
    have m3_7 := m3_7.ext hN7_7.ext
    have m4_7 := m4_7.ext hN7_7.ext
    have m5_11 := m5_11.ext hN7_7.ext
    have m6_11 := m6_11.ext hN7_7.ext
    have hX := hX.trans hN7_7.ext
    have m7_7 := hN7_7.blk
    refine xl_store rfl rfl (hv_storeA (vs := [.int _ _, .int _ _, .int _ _, .int _ _, .int _ _, .int _ _, .int _ _, .int _ _, .int _ _, .int _ _, .int _ _, .int _ _, .int _ _, .slice _ _ _, .slice _ _ _, .int _ _, .int _ _, .int _ _, .int _ _]) rfl rfl rfl (m7_7) rfl (by rfl) rfl) ?_
    rintro v7_8 H7_8 ⟨hU7_8, hZ7_8⟩
    have m0_0 := m0_0.off hU7_8.but (nm0_0_7_7)
    have m0_1 := m0_1.off hU7_8.but (nm0_1_7_7)
    have m3_7 := m3_7.off hU7_8.but (nm3_7_7_7)
    have m4_7 := m4_7.off hU7_8.but (nm4_7_7_7)
    have m5_11 := m5_11.off hU7_8.but (nm5_11_7_7)
    have m6_11 := m6_11.off hU7_8.but (nm6_11_7_7)
    have hX := hX.upd hU7_8.but gb7_7
    have m7_7 := hU7_8.blk
    refine xl_pure rfl rfl rfl (pv_assign (v := .int _ _) rfl rfl) ?_
    refine xl_nil ?_
    refine xthen_normal ?_
    refine xc_seq ?_
    refine xc_region ?_
    refine xl_light rfl rfl rfl (lv_load (v := .agg _) rfl rfl (ld_blk_a m0_0 rfl rfl)) ?_
    refine xl_pure rfl rfl rfl (pv_indexAddr_a rfl rfl rfl (by omega)) ?_
    refine xl_light rfl rfl rfl (lv_load (v := .int _ _) rfl rfl (ld_blk m0_1 rfl)) ?_
    refine xl_heavy rfl rfl rfl (hv_call (g := 13) rfl rfl (c13 d a b c e n1 (hs.ext hX) (hs'.ext hX) (by omega) (by omega)) rfl) ?_
    rintro v8_3 H8_3 ⟨r8_3, x8_3, a8_3, b8_3, c8_3, e8_3, rfl, hd8_3, hs8_3, hE8_3⟩
    have m0_0 := m0_0.ext hE8_3
    have m0_1 := m0_1.ext hE8_3
    have m3_7 := m3_7.ext hE8_3
    have m4_7 := m4_7.ext hE8_3
    have m5_11 := m5_11.ext hE8_3
    have m6_11 := m6_11.ext hE8_3
    have m7_7 := m7_7.ext hE8_3
    have hX := hX.trans hE8_3
    have q8_3 := hd7_3.trans hd8_3.symm
    simp only [Prod.mk.injEq] at q8_3
    obtain ⟨rfl, rfl⟩ := q8_3
    refine xl_pure rfl rfl rfl (pv_move (v := .tuple _) rfl rfl) ?_
    refine xl_pure rfl rfl rfl (pv_extract (v := .agg _) rfl rfl rfl) ?_
    refine xl_pure rfl rfl rfl (pv_extract (v := .int _ _) rfl rfl rfl) ?_
    refine xl_heavy rfl rfl rfl (hv_alloc rfl rfl) ?_
    rintro v8_7 H8_7 ⟨b8_7, rfl, hN8_7⟩
    have gb8_7 := hX.fresh hN8_7
    have nm0_0_8_7 := m0_0.apart hN8_7
    have nm0_1_8_7 := m0_1.apart hN8_7
    have nm3_7_8_7 := m3_7.apart hN8_7
    have nm4_7_8_7 := m4_7.apart hN8_7
    have nm5_11_8_7 := m5_11.apart hN8_7
    have nm6_11_8_7 := m6_11.apart hN8_7
    have nm7_7_8_7 := m7_7.apart hN8_7
    have m0_0 := m0_0.ext hN8_7.ext
    have m0_1 := m0_1.ext hN8_7.ext
    have m3_7 := m3_7.ext hN8_7.ext
    have m4_7 := m4_7.ext hN8_7.ext
    have m5_11 := m5_11.ext hN8_7.ext
    have m6_11 := m6_11.ext hN8_7.ext
    have m7_7 := m7_7.ext hN8_7.ext
    have hX := hX.trans hN8_7.ext
    have m8_7 := hN8_7.blk
    refine xl_store rfl rfl (hv_storeA (vs := [.int _ _, .int _ _, .int _ _, .int _ _, .int _ _, .int _ _, .int _ _, .int _ _, .int _ _, .int _ _, .int _ _, .int _ _, .int _ _, .slice _ _ _, .slice _ _ _, .int _ _, .int _ _, .int _ _, .int _ _]) rfl rfl rfl (m8_7) rfl (by rfl) rfl) ?_
    rintro v8_8 H8_8 ⟨hU8_8, hZ8_8⟩
    have m0_0 := m0_0.off hU8_8.but (nm0_0_8_7)
    have m0_1 := m0_1.off hU8_8.but (nm0_1_8_7)
    have m3_7 := m3_7.off hU8_8.but (nm3_7_8_7)
    have m4_7 := m4_7.off hU8_8.but (nm4_7_8_7)
    have m5_11 := m5_11.off hU8_8.but (nm5_11_8_7)
    have m6_11 := m6_11.off hU8_8.but (nm6_11_8_7)
    have m7_7 := m7_7.off hU8_8.but (nm7_7_8_7)
    have hX := hX.upd hU8_8.but gb8_7
    have m8_7 := hU8_8.blk
    refine xl_pure rfl rfl rfl (pv_assign (v := .int _ _) rfl rfl) ?_
    refine xl_nil ?_
    refine xthen_normal ?_
    refine xc_seq ?_
    refine xc_region ?_
    refine xl_light rfl rfl rfl (lv_load (v := .agg _) rfl rfl (ld_blk_a m0_0 rfl rfl)) ?_
    refine xl_heavy rfl rfl rfl (hv_call (g := 14) rfl rfl (c14 d a b c e  (hs.ext hX) (hs'.ext hX) (by omega) (by omega)) rfl) ?_
    rintro v9_1 H9_1 ⟨n9_1, r9_1, rfl, hd9_1, hE9_1⟩
    have m0_0 := m0_0.ext hE9_1
    have m0_1 := m0_1.ext hE9_1
    have m3_7 := m3_7.ext hE9_1
    have m4_7 := m4_7.ext hE9_1
    have m5_11 := m5_11.ext hE9_1
    have m6_11 := m6_11.ext hE9_1
    have m7_7 := m7_7.ext hE9_1
    have m8_7 := m8_7.ext hE9_1
    have hX := hX.trans hE9_1
    refine xl_pure rfl rfl rfl (pv_move (v := .tuple _) rfl rfl) ?_
    refine xl_pure rfl rfl rfl (pv_extract (v := .int _ _) rfl rfl rfl) ?_
    refine xl_pure rfl rfl rfl (pv_extract (v := .int _ _) rfl rfl rfl) ?_
    refine xl_pure rfl rfl rfl (pv_assign (v := .int _ _) rfl rfl) ?_
    refine xl_pure rfl rfl rfl (pv_assign (v := .int _ _) rfl rfl) ?_
    refine xl_nil ?_
    refine xthen_normal ?_
    refine xc_seq ?_
    refine xc_region ?_
    refine xl_light rfl rfl rfl (lv_load (v := .agg _) rfl rfl (ld_blk_a m0_0 rfl rfl)) ?_
    refine xl_heavy rfl rfl rfl (hv_call (g := 15) rfl rfl (c15 d a b c e  (hs.ext hX) (hs'.ext hX) (by omega) (by omega)) rfl) ?_
    rintro v10_1 H10_1 ⟨n10_1, r10_1, rfl, hd10_1, hE10_1⟩
    have m0_0 := m0_0.ext hE10_1
    have m0_1 := m0_1.ext hE10_1
    have m3_7 := m3_7.ext hE10_1
    have m4_7 := m4_7.ext hE10_1
    have m5_11 := m5_11.ext hE10_1
    have m6_11 := m6_11.ext hE10_1
    have m7_7 := m7_7.ext hE10_1
    have m8_7 := m8_7.ext hE10_1
    have hX := hX.trans hE10_1
    have q10_1 := hd9_1.trans hd10_1.symm
    simp only [Prod.mk.injEq] at q10_1
    obtain ⟨rfl, rfl⟩ := q10_1
    refine xl_pure rfl rfl rfl (pv_move (v := .tuple _) rfl rfl) ?_
    refine xl_pure rfl rfl rfl (pv_extract (v := .int _ _) rfl rfl rfl) ?_
    refine xl_pure rfl rfl rfl (pv_extract (v := .int _ _) rfl rfl rfl) ?_
    refine xl_pure rfl rfl rfl (pv_assign (v := .int _ _) rfl rfl) ?_
    refine xl_pure rfl rfl rfl (pv_assign (v := .int _ _) rfl rfl) ?_
    refine xl_nil ?_
    refine xthen_normal ?_
    refine xc_seq ?_
    refine xc_region ?_
    refine xl_light rfl rfl rfl (lv_load (v := .agg _) rfl rfl (ld_blk_a m0_0 rfl rfl)) ?_
    refine xl_pure rfl rfl rfl (pv_indexAddr_a rfl rfl rfl (by omega)) ?_
    refine xl_light rfl rfl rfl (lv_load (v := .int _ _) rfl rfl (ld_blk m0_1 rfl)) ?_
    refine xl_pure rfl rfl rfl (pv_indexAddr_a rfl rfl rfl (by omega)) ?_
    refine xl_light rfl rfl rfl (lv_load (v := .int _ _) rfl rfl (ld_blk m0_1 rfl)) ?_
    refine xl_heavy rfl rfl rfl (hv_call (g := 16) rfl rfl (c16 d a b c e n1 n2 (hs.ext hX) (hs'.ext hX) (by omega) (by omega)) rfl) ?_
    rintro v11_5 H11_5 ⟨e11_5, l11_5, a11_5, c11_5, rfl, hd11_5, hR11_5, hE11_5⟩
    have m0_0 := m0_0.ext hE11_5
    have m0_1 := m0_1.ext hE11_5
    have m3_7 := m3_7.ext hE11_5
    have m4_7 := m4_7.ext hE11_5
    have m5_11 := m5_11.ext hE11_5
    have m6_11 := m6_11.ext hE11_5
    have m7_7 := m7_7.ext hE11_5
    have m8_7 := m8_7.ext hE11_5
    have hX := hX.trans hE11_5
    have hX11_5 := Ext.refl H11_5
    refine xl_pure rfl rfl rfl (pv_move (v := .tuple _) rfl rfl) ?_
    refine xl_pure rfl rfl rfl (pv_extract (v := .slice _ _ _) rfl rfl rfl) ?_
    refine xl_pure rfl rfl rfl (pv_extract (v := .int _ _) rfl rfl rfl) ?_
    refine xl_pure rfl rfl rfl (pv_assign (v := .slice _ _ _) rfl rfl) ?_
    refine xl_pure rfl rfl rfl (pv_assign (v := .int _ _) rfl rfl) ?_
    refine xl_nil ?_
    refine xthen_normal ?_
    refine xc_seq ?_
    refine xc_region ?_
    refine xl_light rfl rfl rfl (lv_load (v := .agg _) rfl rfl (ld_blk_a m0_0 rfl rfl)) ?_
    refine xl_pure rfl rfl rfl (pv_indexAddr_a rfl rfl rfl (by omega)) ?_
    refine xl_light rfl rfl rfl (lv_load (v := .int _ _) rfl rfl (ld_blk m0_1 rfl)) ?_
    refine xl_pure rfl rfl rfl (pv_indexAddr_a rfl rfl rfl (by omega)) ?_
    refine xl_light rfl rfl rfl (lv_load (v := .int _ _) rfl rfl (ld_blk m0_1 rfl)) ?_
    refine xl_heavy rfl rfl rfl (hv_call (g := 17) rfl rfl (c17 d a b c e n1 n2 (hs.ext hX) (hs'.ext hX) (by omega) (by omega)) rfl) ?_
    rintro v12_5 H12_5 ⟨e12_5, l12_5, a12_5, c12_5, rfl, hd12_5, hR12_5, hE12_5⟩
    have m0_0 := m0_0.ext hE12_5
    have m0_1 := m0_1.ext hE12_5
    have m3_7 := m3_7.ext hE12_5
    have m4_7 := m4_7.ext hE12_5
    have m5_11 := m5_11.ext hE12_5
    have m6_11 := m6_11.ext hE12_5
    have m7_7 := m7_7.ext hE12_5
    have m8_7 := m8_7.ext hE12_5
    have hX := hX.trans hE12_5
    have hX11_5 := hX11_5.trans hE12_5
    have hX12_5 := Ext.refl H12_5
    have q12_5 := hd11_5.trans hd12_5.symm
    simp only [Prod.mk.injEq] at q12_5
    obtain ⟨rfl, rfl⟩ := q12_5
    refine xl_pure rfl rfl rfl (pv_move (v := .tuple _) rfl rfl) ?_
    refine xl_pure rfl rfl rfl (pv_extract (v := .slice _ _ _) rfl rfl rfl) ?_
    refine xl_pure rfl rfl rfl (pv_extract (v := .int _ _) rfl rfl rfl) ?_
    refine xl_pure rfl rfl rfl (pv_assign (v := .slice _ _ _) rfl rfl) ?_
    refine xl_pure rfl rfl rfl (pv_assign (v := .int _ _) rfl rfl) ?_
    refine xl_nil ?_
    refine xthen_normal ?_
    refine xc_seq ?_
    refine xc_seq ?_
    refine xc_region ?_
    refine xl_light rfl rfl rfl (lv_load (v := .agg _) rfl rfl (ld_blk_a m3_7 rfl rfl)) ?_
    refine xl_light rfl rfl rfl (lv_load (v := .agg _) rfl rfl (ld_blk_a m4_7 rfl rfl)) ?_
    refine xl_heavy rfl rfl rfl (hv_call (g := 18) rfl rfl (c18 _ _ _ _ _ _ _ _ _ _ (res_g hs3_3 (hs.ext hX)) (res_w hs3_3 (hs'.ext hX)) (res_g hs4_3 (hs.ext hX)) (res_w hs4_3 (hs'.ext hX)) (res_gl hs3_3 (by omega)) (res_wl hs3_3 (by omega))) rfl) ?_
    rintro v13_2 H13_2 ⟨r13_2, rfl, hb13_2, hE13_2⟩
    have m0_0 := m0_0.ext hE13_2
    have m0_1 := m0_1.ext hE13_2
    have m3_7 := m3_7.ext hE13_2
    have m4_7 := m4_7.ext hE13_2
    have m5_11 := m5_11.ext hE13_2
    have m6_11 := m6_11.ext hE13_2
    have m7_7 := m7_7.ext hE13_2
    have m8_7 := m8_7.ext hE13_2
    have hX := hX.trans hE13_2
    have hX11_5 := hX11_5.trans hE13_2
    have hX12_5 := hX12_5.trans hE13_2
    obtain rfl : r13_2 = true := hb13_2.2 rfl
    refine xl_pure rfl rfl rfl (pv_not rfl rfl) ?_
    refine xl_pure rfl rfl rfl (pv_move (v := .bool _) rfl rfl) ?_
    refine xl_pure rfl rfl rfl (pv_move (v := .int _ _) rfl rfl) ?_
    refine xl_pure rfl rfl rfl (pv_move (v := .int _ _) rfl rfl) ?_
    refine xl_ndec rfl rfl rfl (pv_neq rfl rfl rfl) (fun h13_7 => ?_) (fun h13_7 => ?_)
    · skip
      refine xl_pure rfl rfl rfl (pv_pick_f (v := .bool _) rfl rfl rfl) ?_
      refine xl_pure rfl rfl rfl (pv_move (v := .bool _) rfl rfl) ?_
      refine xl_light rfl rfl rfl (lv_load (v := .agg _) rfl rfl (ld_blk_a m5_11 rfl rfl)) ?_
      refine xl_light rfl rfl rfl (lv_load (v := .agg _) rfl rfl (ld_blk_a m6_11 rfl rfl)) ?_
      refine xl_heavy rfl rfl rfl (hv_call (g := 18) rfl rfl (c18 _ _ _ _ _ _ _ _ _ _ (res_g hs5_7 (hs.ext hX)) (res_w hs5_7 (hs'.ext hX)) (res_g hs6_7 (hs.ext hX)) (res_w hs6_7 (hs'.ext hX)) (res_gl hs5_7 (by omega)) (res_wl hs5_7 (by omega))) rfl) ?_
      rintro v13_12 H13_12 ⟨r13_12, rfl, hb13_12, hE13_12⟩
      have m0_0 := m0_0.ext hE13_12
      have m0_1 := m0_1.ext hE13_12
      have m3_7 := m3_7.ext hE13_12
      have m4_7 := m4_7.ext hE13_12
      have m5_11 := m5_11.ext hE13_12
      have m6_11 := m6_11.ext hE13_12
      have m7_7 := m7_7.ext hE13_12
      have m8_7 := m8_7.ext hE13_12
      have hX := hX.trans hE13_12
      have hX11_5 := hX11_5.trans hE13_12
      have hX12_5 := hX12_5.trans hE13_12
      obtain rfl : r13_12 = true := hb13_12.2 rfl
      refine xl_pure rfl rfl rfl (pv_not rfl rfl) ?_
      refine xl_pure rfl rfl rfl (pv_pick_f (v := .bool _) rfl rfl rfl) ?_
      refine xl_pure rfl rfl rfl (pv_move (v := .bool _) rfl rfl) ?_
      refine xl_pure rfl rfl rfl (pv_move (v := .int _ _) rfl rfl) ?_
      refine xl_pure rfl rfl rfl (pv_move (v := .int _ _) rfl rfl) ?_
      refine xl_ndec rfl rfl rfl (pv_neq rfl rfl rfl) (fun h13_18 => ?_) (fun h13_18 => ?_)
      · skip
        refine xl_pure rfl rfl rfl (pv_pick_f (v := .bool _) rfl rfl rfl) ?_
        refine xl_pure rfl rfl rfl (pv_move (v := .bool _) rfl rfl) ?_
        refine xl_light rfl rfl rfl (lv_load (v := .agg _) rfl rfl (ld_blk_a m7_7 rfl rfl)) ?_
        refine xl_light rfl rfl rfl (lv_load (v := .agg _) rfl rfl (ld_blk_a m8_7 rfl rfl)) ?_
        refine xl_heavy rfl rfl rfl (hv_call (g := 18) rfl rfl (c18 _ _ _ _ _ _ _ _ _ _ (res_g hs7_3 (hs.ext hX)) (res_w hs7_3 (hs'.ext hX)) (res_g hs8_3 (hs.ext hX)) (res_w hs8_3 (hs'.ext hX)) (res_gl hs7_3 (by omega)) (res_wl hs7_3 (by omega))) rfl) ?_
        rintro v13_23 H13_23 ⟨r13_23, rfl, hb13_23, hE13_23⟩
        have m0_0 := m0_0.ext hE13_23
        have m0_1 := m0_1.ext hE13_23
        have m3_7 := m3_7.ext hE13_23
        have m4_7 := m4_7.ext hE13_23
        have m5_11 := m5_11.ext hE13_23
        have m6_11 := m6_11.ext hE13_23
        have m7_7 := m7_7.ext hE13_23
        have m8_7 := m8_7.ext hE13_23
        have hX := hX.trans hE13_23
        have hX11_5 := hX11_5.trans hE13_23
        have hX12_5 := hX12_5.trans hE13_23
        obtain rfl : r13_23 = true := hb13_23.2 rfl
        refine xl_pure rfl rfl rfl (pv_not rfl rfl) ?_
        refine xl_pure rfl rfl rfl (pv_pick_f (v := .bool _) rfl rfl rfl) ?_
        refine xl_pure rfl rfl rfl (pv_move (v := .bool _) rfl rfl) ?_
        refine xl_pure rfl rfl rfl (pv_move (v := .int _ _) rfl rfl) ?_
        refine xl_pure rfl rfl rfl (pv_move (v := .int _ _) rfl rfl) ?_
        refine xl_ndec rfl rfl rfl (pv_neq rfl rfl rfl) (fun h13_29 => ?_) (fun h13_29 => ?_)
        · skip
          refine xl_pure rfl rfl rfl (pv_pick_f (v := .bool _) rfl rfl rfl) ?_
          refine xl_nil ?_
          refine xthen_normal ?_
          refine xc_cond_f rfl ?_
          refine xc_skip ?_
          refine xthen_normal ?_
          refine xc_seq ?_
          have hlen := len_shares hd11_5
          refine xp_start rfl (by repeat (first | with_reducible exact np_fin | with_reducible refine np_then ?_ | with_reducible refine np_block ?_)) (by kernel_rfl) ?_
          refine xp_pure (i := 0) rfl (by kernel_rfl) (by kernel_rfl) rfl rfl rfl (pv_move (v := .int _ _) rfl rfl) ?_
          refine xp_pure (i := 1) rfl (by kernel_rfl) (by kernel_rfl) rfl rfl rfl (pv_move (v := .int _ _) rfl rfl) ?_
          refine xp_dec (i := 2) rfl (by kernel_rfl) (by kernel_rfl) rfl rfl rfl (pv_eql rfl rfl rfl) (fun h15_2 => ?_) (fun h15_2 => ?_)
          · skip
            refine xp_pure (i := 3) rfl (by kernel_rfl) (by kernel_rfl) rfl rfl rfl (pv_move (v := .bool _) rfl rfl) ?_
            refine xp_pure (i := 4) rfl (by kernel_rfl) (by kernel_rfl) rfl rfl rfl (pv_move (v := .int _ _) rfl rfl) ?_
            refine xp_pure (i := 5) rfl (by kernel_rfl) (by kernel_rfl) rfl rfl rfl (pv_move (v := .int _ _) rfl rfl) ?_
            refine xp_dec (i := 6) rfl (by kernel_rfl) (by kernel_rfl) rfl rfl rfl (pv_eql rfl rfl rfl) (fun h15_6 => ?_) (fun h15_6 => ?_)
            · skip
              refine xp_pure (i := 7) rfl (by kernel_rfl) (by kernel_rfl) rfl rfl rfl (pv_pick_t (v := .bool _) rfl rfl rfl) ?_
              refine xp_pure (i := 8) rfl (by kernel_rfl) (by kernel_rfl) rfl rfl rfl (pv_move (v := .bool _) rfl rfl) ?_
              refine xp_pure (i := 9) rfl (by kernel_rfl) (by kernel_rfl) rfl rfl rfl (pv_move (v := .slice _ _ _) rfl rfl) ?_
              refine xp_pure (i := 10) rfl (by kernel_rfl) (by kernel_rfl) rfl rfl rfl (pv_move (v := .slice _ _ _) rfl rfl) ?_
              refine xp_heavy (i := 11) (by kernel_rfl) ?_
              refine xph_val rfl rfl rfl rfl (hv_call (g := 19) rfl rfl (c19 _ _ _ _ _ _ (hR11_5.ext hX11_5) (hR12_5.ext hX12_5) hlen) rfl) pn ?_
              rintro v15_11 H15_11 ⟨r15_11, rfl, hb15_11, rfl⟩
              obtain rfl : r15_11 = true := hb15_11.2 rfl
              refine ⟨okn, ?_⟩
              refine xp_pure (i := 12) rfl (by kernel_rfl) (by kernel_rfl) rfl rfl rfl (pv_pick_t (v := .bool _) rfl rfl rfl) ?_
              refine xp_pure (i := 13) rfl (by kernel_rfl) (by kernel_rfl) rfl rfl rfl (pv_move (v := .bool _) rfl rfl) ?_
              refine xp_pure (i := 14) rfl (by kernel_rfl) (by kernel_rfl) rfl rfl rfl (pv_move (v := .int _ _) rfl rfl) ?_
              refine xp_pure (i := 15) rfl (by kernel_rfl) (by kernel_rfl) rfl rfl rfl (pv_move (v := .int _ _) rfl rfl) ?_
              refine xp_dec (i := 16) rfl (by kernel_rfl) (by kernel_rfl) rfl rfl rfl (pv_eql rfl rfl rfl) (fun h15_16 => ?_) (fun h15_16 => ?_)
              · skip
                refine xp_pure (i := 17) rfl (by kernel_rfl) (by kernel_rfl) rfl rfl rfl (pv_pick_t (v := .bool _) rfl rfl rfl) ?_
                refine xp_pure (i := 18) rfl (by kernel_rfl) (by kernel_rfl) rfl rfl rfl (pv_move (v := .bool _) rfl rfl) ?_
                refine xp_light (i := 19) rfl (by kernel_rfl) (by kernel_rfl) rfl rfl rfl (lv_load (v := .agg _) rfl rfl (ld_blk_a m0_0 rfl rfl)) ?_
                refine xp_light (i := 21) rfl (by kernel_rfl) (by kernel_rfl) rfl rfl rfl (lv_load (v := .agg _) rfl rfl (ld_blk_a m0_0 rfl rfl)) ?_
                refine xp_heavy (i := 20) (by kernel_rfl) ?_
                refine xph_val rfl rfl rfl rfl (hv_call (g := 20) rfl rfl (c20 d a b c e (hs.ext hX) (hs'.ext hX) (by omega) (by omega)) rfl) (pk (by kernel_rfl) (pd (by kernel_rfl) pn)) ?_
                rintro v15_20 H15_20 ⟨e15_20, rfl, hg15_20, hE15_20⟩
                have m0_0 := m0_0.ext hE15_20
                have m0_1 := m0_1.ext hE15_20
                have m3_7 := m3_7.ext hE15_20
                have m4_7 := m4_7.ext hE15_20
                have m5_11 := m5_11.ext hE15_20
                have m6_11 := m6_11.ext hE15_20
                have m7_7 := m7_7.ext hE15_20
                have m8_7 := m8_7.ext hE15_20
                have hX := hX.trans hE15_20
                have hX11_5 := hX11_5.trans hE15_20
                have hX12_5 := hX12_5.trans hE15_20
                refine ⟨(okc (lv_load (v := .agg _) rfl rfl (ld_blk_a m0_0 rfl rfl)) okn), ?_⟩
                refine xp_heavy (i := 22) (by kernel_rfl) ?_
                refine xph_val rfl rfl rfl rfl (hv_call (g := 21) rfl rfl (c21 d a b c e (hs.ext hX) (hs'.ext hX) (by omega) (by omega)) rfl) (pd (by kernel_rfl) pn) ?_
                rintro v15_22 H15_22 ⟨e15_22, rfl, hg15_22, hE15_22⟩
                have m0_0 := m0_0.ext hE15_22
                have m0_1 := m0_1.ext hE15_22
                have m3_7 := m3_7.ext hE15_22
                have m4_7 := m4_7.ext hE15_22
                have m5_11 := m5_11.ext hE15_22
                have m6_11 := m6_11.ext hE15_22
                have m7_7 := m7_7.ext hE15_22
                have m8_7 := m8_7.ext hE15_22
                have hX := hX.trans hE15_22
                have hX11_5 := hX11_5.trans hE15_22
                have hX12_5 := hX12_5.trans hE15_22
                refine ⟨okn, ?_⟩
                refine xp_dec (i := 23) rfl (by kernel_rfl) (by kernel_rfl) rfl rfl rfl (pv_eql rfl rfl rfl) (fun h15_23 => ?_) (fun h15_23 => ?_)
                · skip
                  refine xp_pure (i := 24) rfl (by kernel_rfl) (by kernel_rfl) rfl rfl rfl (pv_pick_t (v := .bool _) rfl rfl rfl) ?_
                  refine xp_pure (i := 25) rfl (by kernel_rfl) (by kernel_rfl) rfl rfl rfl (pv_move (v := .bool _) rfl rfl) ?_
                  refine xp_light (i := 26) rfl (by kernel_rfl) (by kernel_rfl) rfl rfl rfl (lv_load (v := .agg _) rfl rfl (ld_blk_a m0_0 rfl rfl)) ?_
                  refine xp_light (i := 28) rfl (by kernel_rfl) (by kernel_rfl) rfl rfl rfl (lv_load (v := .agg _) rfl rfl (ld_blk_a m0_0 rfl rfl)) ?_
                  refine xp_heavy (i := 27) (by kernel_rfl) ?_
                  refine xph_val rfl rfl rfl rfl (hv_call (g := 22) rfl rfl (c22 d a b c e) rfl) (pk (by kernel_rfl) (pd (by kernel_rfl) pn)) ?_
                  rintro v15_27 H15_27 ⟨r15_27, rfl, hb15_27, hE15_27⟩
                  have m0_0 := m0_0.ext hE15_27
                  have m0_1 := m0_1.ext hE15_27
                  have m3_7 := m3_7.ext hE15_27
                  have m4_7 := m4_7.ext hE15_27
                  have m5_11 := m5_11.ext hE15_27
                  have m6_11 := m6_11.ext hE15_27
                  have m7_7 := m7_7.ext hE15_27
                  have m8_7 := m8_7.ext hE15_27
                  have hX := hX.trans hE15_27
                  have hX11_5 := hX11_5.trans hE15_27
                  have hX12_5 := hX12_5.trans hE15_27
                  refine ⟨(okc (lv_load (v := .agg _) rfl rfl (ld_blk_a m0_0 rfl rfl)) okn), ?_⟩
                  refine xp_heavy (i := 29) (by kernel_rfl) ?_
                  refine xph_val rfl rfl rfl rfl (hv_call (g := 23) rfl rfl (c23 d a b c e) rfl) (pd (by kernel_rfl) pn) ?_
                  rintro v15_29 H15_29 ⟨r15_29, rfl, hb15_29, hE15_29⟩
                  have m0_0 := m0_0.ext hE15_29
                  have m0_1 := m0_1.ext hE15_29
                  have m3_7 := m3_7.ext hE15_29
                  have m4_7 := m4_7.ext hE15_29
                  have m5_11 := m5_11.ext hE15_29
                  have m6_11 := m6_11.ext hE15_29
                  have m7_7 := m7_7.ext hE15_29
                  have m8_7 := m8_7.ext hE15_29
                  have hX := hX.trans hE15_29
                  have hX11_5 := hX11_5.trans hE15_29
                  have hX12_5 := hX12_5.trans hE15_29
                  obtain rfl : r15_29 = r15_27 := by rw [Bool.eq_iff_iff, hb15_29, hb15_27]
                  refine ⟨okn, ?_⟩
                  refine xp_pure (i := 30) rfl (by kernel_rfl) (by kernel_rfl) rfl rfl rfl (pv_eql_same rfl rfl rfl) ?_
                  refine xp_pure (i := 31) rfl (by kernel_rfl) (by kernel_rfl) rfl rfl rfl (pv_pick_t (v := .bool _) rfl rfl rfl) ?_
                  refine xp_pure (i := 32) rfl (by kernel_rfl) (by kernel_rfl) rfl rfl rfl (pv_move (v := .bool _) rfl rfl) ?_
                  refine xp_heavy (i := 33) (by kernel_rfl) ?_
                  refine xph_val rfl rfl rfl rfl (hv_call (g := 7) rfl rfl (c7) rfl) pn ?_
                  rintro v15_33 H15_33 ⟨rfl, hE15_33⟩
                  have m0_0 := m0_0.ext hE15_33
                  have m0_1 := m0_1.ext hE15_33
                  have m3_7 := m3_7.ext hE15_33
                  have m4_7 := m4_7.ext hE15_33
                  have m5_11 := m5_11.ext hE15_33
                  have m6_11 := m6_11.ext hE15_33
                  have m7_7 := m7_7.ext hE15_33
                  have m8_7 := m8_7.ext hE15_33
                  have hX := hX.trans hE15_33
                  have hX11_5 := hX11_5.trans hE15_33
                  have hX12_5 := hX12_5.trans hE15_33
                  refine ⟨okn, ?_⟩
                  refine xp_pure (i := 34) rfl (by kernel_rfl) (by kernel_rfl) rfl rfl rfl (pv_pick_t (v := .bool _) rfl rfl rfl) ?_
                  refine xp_pure (i := 35) rfl (by kernel_rfl) (by kernel_rfl) rfl rfl rfl (pv_assign (v := .bool _) rfl rfl) ?_
                  refine xp_done (by kernel_rfl) ?_
                  refine xthen_normal ?_
                  refine xc_ret ?_
                  refine fin_ret (res1 (v := .bool _) rfl rfl) ?_
                  exact ⟨rfl, hX⟩
                · exact absurd (eq_of_or hg15_20 hg15_22) h15_23
              · exact absurd rfl h15_16
            · exact absurd rfl h15_6
          · exact absurd rfl h15_2
        · exact absurd rfl h13_29
      · exact absurd rfl h13_18
    · exact absurd rfl h13_7
end Go.XG
