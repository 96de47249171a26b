/-
  Walks of the seat's functions over the logic XG: each function, what it computes. Printed by a program out of wip/walks.py.
-/
import Derived.Test.YtoabjfmegnjicaaI
import Derived.Test.YtoabjfmegnjicaaTo
import Derived.Test.YtoabjfmegnjicaaTa
import Derived.Test.YtoabjfmegnjicaaTb
import Derived.Test.YtoabjfmegnjicaaTc
import Derived.Test.YtoabjfmegnjicaaTd
import Derived.Test.YtoabjfmegnjicaaQ
import Derived.Test.YtoabjfmegnjicaaWa
import Derived.Test.YtoabjfmegnjicaaWb
import Derived.Test.YtoabjfmegnjicaaWc
import Derived.Test.YtoabjfmegnjicaaWd
import Derived.Test.YtoabjfmegnjicaaWe
import Derived.Test.YtoabjfmegnjicaaB
import Derived.Test.YtoabjfmegnjicaaWf
import Derived.Test.YtoabjfmegnjicaaD
import Derived.Test.YtoabjfmegnjicaaWg
import Derived.Test.YtoabjfmegnjicaaWh
import Derived.Test.YtoabjfmegnjicaaWi
import Derived.Test.YtoabjfmegnjicaaE
import Derived.Test.YtoabjfmegnjicaaWj
import Derived.Test.YtoabjfmegnjicaaWk
import Derived.Test.YtoabjfmegnjicaaWl
import Derived.Test.YtoabjfmegnjicaaWm
import Derived.Test.YtoabjfmegnjicaaWn
import Derived.Test.YtoabjfmegnjicaaWo
namespace Go.XG
open Go.Proofs
set_option maxRecDepth 4000
set_option maxHeartbeats 4000000
theorem all_stay {d : Bool} {l : List (List Int)} {k0 k1 k2 : Int} {s : List Stack} (h : allE d l k0 k1 k2 s ≠ 0) : allX d l k0 k1 k2 s = l := if_neg h
theorem stks_blk {H : Heap} {b t : Nat} {l : List Stack} (h : Blk H b (fl l) t) : Stks H (some ⟨b, 0, none⟩) l := .inr ⟨b, 0, rfl, stks_row h.row⟩

theorem c7 {O : Outer} {H : Heap}  :
    FnC Try.prog 7 #[] O H (fun v H' => v = .bool true ∧ Ext H H') := by
  have tots0 : Tots [] (List.replicate 33 0) := ⟨rfl, fun t h1 h2 => rep_get⟩
  refine fn_enter (A := []) Try.func7 rfl rfl ?_
  have hX := Ext.refl H
  refine xc_seq ?_
  refine xc_region ?_
  refine xl_pure rfl rfl rfl (pv_assign (v := .bool _) rfl rfl) ?_
  refine xl_nil ?_
  refine xthen_normal ?_
  refine xc_seq ?_
  refine xc_region ?_
  refine xl_pure rfl rfl rfl (pv_build_s (cs := .slice none 0 0 :: ints (List.replicate 33 0)) rfl rfl (by kernel_rfl)) ?_
  refine xl_heavy rfl rfl rfl (hv_box rfl rfl) ?_
  rintro v1_1 H1_1 ⟨b1_1, rfl, hN1_1⟩
  have gb1_1 := hX.fresh hN1_1
  have hX := hX.trans hN1_1.ext
  have m1_1 := hN1_1.blk
  refine xl_pure rfl rfl rfl (pv_assign (v := .pointer _) rfl rfl) ?_
  refine xl_nil ?_
  refine xthen_normal ?_
  refine xc_seq ?_
  refine xc_region ?_
  refine xl_pure rfl rfl rfl (pv_build_s (cs := [.int _ _, .int _ _, .int _ _, .int _ _]) rfl rfl rfl) ?_
  refine xl_heavy rfl rfl rfl (hv_alloc rfl rfl) ?_
  rintro v2_1 H2_1 ⟨b2_1, rfl, hN2_1⟩
  have gb2_1 := hX.fresh hN2_1
  have nm1_1_2_1 := m1_1.apart hN2_1
  have m1_1 := m1_1.ext hN2_1.ext
  have hX := hX.trans hN2_1.ext
  have m2_1 := hN2_1.blk
  refine xl_store rfl rfl (hv_storeA (vs := [.int _ _, .int _ _, .int _ _, .int _ _]) rfl rfl rfl (m2_1) rfl (by rfl) rfl) ?_
  rintro v2_2 H2_2 ⟨hU2_2, hZ2_2⟩
  have m1_1 := m1_1.off hU2_2.but (by first | exact nm1_1_2_1 | exact ⟨m1_1.ne m2_1 rfl⟩ | exact ⟨m1_1.ne m2_1 (by assumption)⟩ | exact ⟨Ne.symm (m2_1.ne m1_1 (by assumption))⟩)
  have hX := hX.upd hU2_2.but gb2_1
  have m2_1 := hU2_2.blk
  refine xl_nil ?_
  refine xthen_normal ?_
  refine xc_seq ?_
  refine xc_seq ?_
  refine xc_region ?_
  refine xl_pure rfl rfl rfl (pv_move (v := .pointer _) rfl rfl) ?_
  refine xl_light rfl rfl rfl (lv_load (v := .agg _) rfl rfl (ld_blk_a m2_1 rfl rfl)) ?_
  refine xl_heavy rfl rfl rfl (hv_call (g := 25) rfl rfl (c25 (l := []) m1_1 RowsT.nil (Nat.le_refl _) (fun _ => rfl) (by decide) gooL_nil tots0 1 0 1 2 5 (by decide)) rfl) ?_
  rintro v3_2 H3_2 ⟨a3_2, c3_2, T3_2, hv3_2, hB3_2, hT3_2, hR3_2, hc3_2, hna3_2, ht3_2⟩
  have m2_1 := m2_1.off hB3_2 (by first | exact nm1_1_2_1.symm | exact ⟨m2_1.ne m1_1 rfl⟩ | exact ⟨m2_1.ne m1_1 (by assumption)⟩ | exact ⟨Ne.symm (m1_1.ne m2_1 (by assumption))⟩)
  have hX := hX.upd hB3_2 gb1_1
  have m1_1 := hT3_2
  have e3_2 : layX [] [1, 0, 1, 2] 5 = [[1, 0, 1, 2, 5]] := by decide
  have hgo3_2 : GooL [[1, 0, 1, 2, 5]] := by have h := (goo_lay (k := [1, 0, 1, 2]) (n := 5) gooL_nil rfl).1; rw [e3_2] at h; exact h
  rw [e3_2] at m1_1 hR3_2 hc3_2 ht3_2
  obtain rfl : v3_2 = .int .i64 0 := hv3_2.trans (congrArg (Value.int .i64) (by decide))
  refine xl_ndec rfl rfl rfl (pv_neq rfl rfl rfl) (fun h3_3 => ?_) (fun h3_3 => ?_)
  · skip
    refine xl_pure rfl rfl rfl (pv_move (v := .bool _) rfl rfl) ?_
    refine xl_pure rfl rfl rfl (pv_move (v := .pointer _) rfl rfl) ?_
    refine xl_light rfl rfl rfl (lv_load (v := .agg _) rfl rfl (ld_blk_a m2_1 rfl rfl)) ?_
    refine xl_heavy rfl rfl rfl (hv_call (g := 17) rfl rfl (c17 (l := [[1, 0, 1, 2, 5]]) m1_1 hR3_2 hc3_2 hna3_2 (by decide) hgo3_2 ht3_2 1 0 1 2 6) rfl) ?_
    rintro v3_7 H3_7 ⟨a3_7, c3_7, T3_7, hv3_7, hB3_7, hT3_7, hR3_7, hc3_7, hna3_7, ht3_7⟩
    have m2_1 := m2_1.off hB3_7 (by first | exact nm1_1_2_1.symm | exact ⟨m2_1.ne m1_1 rfl⟩ | exact ⟨m2_1.ne m1_1 (by assumption)⟩ | exact ⟨Ne.symm (m1_1.ne m2_1 (by assumption))⟩)
    have hR3_2 := hR3_2.offT m1_1 hB3_7 (by first | rfl | assumption)
    have hX := hX.upd hB3_7 gb1_1
    have m1_1 := hT3_7
    have e3_7 : takX [[1, 0, 1, 2, 5]] [1, 0, 1, 2] 6 = [[1, 0, 1, 2, 5]] := by decide
    have hgo3_7 : GooL [[1, 0, 1, 2, 5]] := by have h := (goo_tak (k := [1, 0, 1, 2]) (n := 6) hgo3_2 rfl).1; rw [e3_7] at h; exact h
    rw [e3_7] at m1_1 hR3_7 hc3_7 ht3_7
    obtain rfl : v3_7 = .int .i64 7 := hv3_7.trans (congrArg (Value.int .i64) (by decide))
    refine xl_ndec rfl rfl rfl (pv_neq rfl rfl rfl) (fun h3_8 => ?_) (fun h3_8 => ?_)
    · skip
      refine xl_pure rfl rfl rfl (pv_pick_f (v := .bool _) rfl rfl rfl) ?_
      refine xl_pure rfl rfl rfl (pv_move (v := .bool _) rfl rfl) ?_
      refine xl_pure rfl rfl rfl (pv_move (v := .pointer _) rfl rfl) ?_
      refine xl_light rfl rfl rfl (lv_load (v := .agg _) rfl rfl (ld_blk_a m2_1 rfl rfl)) ?_
      refine xl_heavy rfl rfl rfl (hv_call (g := 17) rfl rfl (c17 (l := [[1, 0, 1, 2, 5]]) m1_1 hR3_7 hc3_7 hna3_7 (by decide) hgo3_7 ht3_7 1 0 1 2 2) rfl) ?_
      rintro v3_13 H3_13 ⟨a3_13, c3_13, T3_13, hv3_13, hB3_13, hT3_13, hR3_13, hc3_13, hna3_13, ht3_13⟩
      have m2_1 := m2_1.off hB3_13 (by first | exact nm1_1_2_1.symm | exact ⟨m2_1.ne m1_1 rfl⟩ | exact ⟨m2_1.ne m1_1 (by assumption)⟩ | exact ⟨Ne.symm (m1_1.ne m2_1 (by assumption))⟩)
      have hR3_2 := hR3_2.offT m1_1 hB3_13 (by first | rfl | assumption)
      have hR3_7 := hR3_7.offT m1_1 hB3_13 (by first | rfl | assumption)
      have hX := hX.upd hB3_13 gb1_1
      have m1_1 := hT3_13
      have e3_13 : takX [[1, 0, 1, 2, 5]] [1, 0, 1, 2] 2 = [[1, 0, 1, 2, 3]] := by decide
      have hgo3_13 : GooL [[1, 0, 1, 2, 3]] := by have h := (goo_tak (k := [1, 0, 1, 2]) (n := 2) hgo3_7 rfl).1; rw [e3_13] at h; exact h
      rw [e3_13] at m1_1 hR3_13 hc3_13 ht3_13
      obtain rfl : v3_13 = .int .i64 0 := hv3_13.trans (congrArg (Value.int .i64) (by decide))
      refine xl_ndec rfl rfl rfl (pv_neq rfl rfl rfl) (fun h3_14 => ?_) (fun h3_14 => ?_)
      · skip
        refine xl_pure rfl rfl rfl (pv_pick_f (v := .bool _) rfl rfl rfl) ?_
        refine xl_pure rfl rfl rfl (pv_move (v := .bool _) rfl rfl) ?_
        refine xl_pure rfl rfl rfl (pv_move (v := .pointer _) rfl rfl) ?_
        refine xl_light rfl rfl rfl (lv_load (v := .agg _) rfl rfl (ld_blk_a m2_1 rfl rfl)) ?_
        refine xl_pure rfl rfl rfl (pv_build_s (cs := [.int _ _, .int _ _]) rfl rfl rfl) ?_
        refine xl_pure rfl rfl rfl (pv_build_s (cs := [.int _ _, .int _ _]) rfl rfl rfl) ?_
        refine xl_heavy rfl rfl rfl (hv_buildSlice (cs := [.int _ _, .int _ _, .int _ _, .int _ _]) rfl rfl rfl rfl rfl) ?_
        rintro v3_21 H3_21 ⟨b3_21, rfl, hN3_21⟩
        have gb3_21 := hX.fresh hN3_21
        have nm1_1_3_21 := m1_1.apart hN3_21
        have nm2_1_3_21 := m2_1.apart hN3_21
        have m1_1 := m1_1.ext hN3_21.ext
        have m2_1 := m2_1.ext hN3_21.ext
        have hR3_2 := hR3_2.ext hN3_21.ext
        have hR3_7 := hR3_7.ext hN3_21.ext
        have hR3_13 := hR3_13.ext hN3_21.ext
        have hX := hX.trans hN3_21.ext
        have m3_21 := hN3_21.blk
        refine xl_heavy rfl rfl rfl (hv_call (g := 15) rfl rfl (c15 (l := [[1, 0, 1, 2, 3]]) m1_1 hR3_13 hc3_13 hna3_13 (by decide) hgo3_13 ht3_13 1 0 1 2 (sc := 2) (s := [((1 : Int), (4 : Int)), ((2 : Int), (1 : Int))]) ⟨stks_blk (l := [((1 : Int), (4 : Int)), ((2 : Int), (1 : Int))]) m3_21, fun g o he h0 => by cases he; exact Ne.symm nm1_1_3_21.ne⟩ (by decide)) rfl) ?_
        rintro v3_22 H3_22 ⟨a3_22, c3_22, T3_22, hv3_22, hB3_22, hT3_22, hR3_22, hc3_22, hna3_22, ht3_22⟩
        have m2_1 := m2_1.off hB3_22 (by first | exact nm1_1_2_1.symm | exact ⟨m2_1.ne m1_1 rfl⟩ | exact ⟨m2_1.ne m1_1 (by assumption)⟩ | exact ⟨Ne.symm (m1_1.ne m2_1 (by assumption))⟩)
        have hR3_2 := hR3_2.offT m1_1 hB3_22 (by first | rfl | assumption)
        have hR3_7 := hR3_7.offT m1_1 hB3_22 (by first | rfl | assumption)
        have hR3_13 := hR3_13.offT m1_1 hB3_22 (by first | rfl | assumption)
        have m3_21 := m3_21.off hB3_22 (by first | exact nm1_1_3_21.symm | exact ⟨m3_21.ne m1_1 rfl⟩ | exact ⟨m3_21.ne m1_1 (by assumption)⟩ | exact ⟨Ne.symm (m1_1.ne m3_21 (by assumption))⟩)
        have hX := hX.upd hB3_22 gb1_1
        have m1_1 := hT3_22
        have e3_22 : allX true [[1, 0, 1, 2, 3]] 1 0 1 [((1 : Int), (4 : Int)), ((2 : Int), (1 : Int))] = [[1, 0, 1, 1, 4], [1, 0, 1, 2, 4]] := by decide
        have hgo3_22 : GooL [[1, 0, 1, 1, 4], [1, 0, 1, 2, 4]] := by have h := (goo_all (d := true) (k0 := 1) (k1 := 0) (k2 := 1) (s := [((1 : Int), (4 : Int)), ((2 : Int), (1 : Int))]) hgo3_13).1; rw [e3_22] at h; exact h
        rw [e3_22] at m1_1 hR3_22 hc3_22 ht3_22
        obtain rfl : v3_22 = .int .i64 0 := hv3_22.trans (congrArg (Value.int .i64) (by decide))
        refine xl_ndec rfl rfl rfl (pv_neq rfl rfl rfl) (fun h3_23 => ?_) (fun h3_23 => ?_)
        · skip
          refine xl_pure rfl rfl rfl (pv_pick_f (v := .bool _) rfl rfl rfl) ?_
          refine xl_nil ?_
          refine xthen_normal ?_
          refine xc_cond_f rfl ?_
          refine xc_skip ?_
          refine xthen_normal ?_
          refine xc_seq ?_
          refine xc_region ?_
          refine xl_pure rfl rfl rfl (pv_move (v := .pointer _) rfl rfl) ?_
          refine xl_light rfl rfl rfl (lv_load (v := .agg _) rfl rfl (ld_blk_a m2_1 rfl rfl)) ?_
          refine xl_heavy rfl rfl rfl (hv_call (g := 10) rfl rfl (c10 (l := [[1, 0, 1, 1, 4], [1, 0, 1, 2, 4]]) m1_1 hR3_22 hc3_22 hna3_22 (by decide) hgo3_22.srt ht3_22.len 1 0 1 2) rfl) ?_
          rintro v5_2 H5_2 ⟨hv5_2, hE5_2⟩
          have m1_1 := m1_1.ext hE5_2
          have m2_1 := m2_1.ext hE5_2
          have hR3_2 := hR3_2.ext hE5_2
          have hR3_7 := hR3_7.ext hE5_2
          have hR3_13 := hR3_13.ext hE5_2
          have m3_21 := m3_21.ext hE5_2
          have hR3_22 := hR3_22.ext hE5_2
          have hX := hX.trans hE5_2
          obtain rfl : v5_2 = .int .i64 4 := hv5_2.trans (congrArg (Value.int .i64) (by decide))
          refine xl_dec rfl rfl rfl (pv_eql rfl rfl rfl) (fun h5_3 => ?_) (fun h5_3 => ?_)
          · skip
            refine xl_pure rfl rfl rfl (pv_move (v := .bool _) rfl rfl) ?_
            refine xl_pure rfl rfl rfl (pv_move (v := .pointer _) rfl rfl) ?_
            refine xl_heavy rfl rfl rfl (hv_call (g := 11) rfl rfl (c11g (l := [[1, 0, 1, 1, 4], [1, 0, 1, 2, 4]]) m1_1 hR3_22 hc3_22 hna3_22 (by decide) hgo3_22 ht3_22 1) rfl) ?_
            rintro v5_6 H5_6 ⟨hv5_6, rfl⟩
            obtain rfl : v5_6 = .int .i64 4 := hv5_6.trans (congrArg (Value.int .i64) (by decide))
            refine xl_dec rfl rfl rfl (pv_eql rfl rfl rfl) (fun h5_7 => ?_) (fun h5_7 => ?_)
            · skip
              refine xl_pure rfl rfl rfl (pv_pick_t (v := .bool _) rfl rfl rfl) ?_
              refine xl_pure rfl rfl rfl (pv_move (v := .bool _) rfl rfl) ?_
              refine xl_pure rfl rfl rfl (pv_move (v := .pointer _) rfl rfl) ?_
              refine xl_light rfl rfl rfl (lv_load (v := .agg _) rfl rfl (ld_blk_a m2_1 rfl rfl)) ?_
              refine xl_heavy rfl rfl rfl (hv_call (g := 13) rfl rfl (c13 (l := [[1, 0, 1, 1, 4], [1, 0, 1, 2, 4]]) m1_1 hR3_22 hc3_22 hna3_22 (by decide) hgo3_22.srt 1 0 1 2) rfl) ?_
              rintro v5_12 H5_12 ⟨a5_12, c5_12, rfl, hQ5_12, hE5_12⟩
              have m1_1 := m1_1.ext hE5_12
              have m2_1 := m2_1.ext hE5_12
              have hR3_2 := hR3_2.ext hE5_12
              have hR3_7 := hR3_7.ext hE5_12
              have hR3_13 := hR3_13.ext hE5_12
              have m3_21 := m3_21.ext hE5_12
              have hR3_22 := hR3_22.ext hE5_12
              have hX := hX.trans hE5_12
              refine xl_pure rfl rfl rfl (pv_build_s (cs := [.int _ _, .int _ _]) rfl rfl rfl) ?_
              refine xl_pure rfl rfl rfl (pv_build_s (cs := [.int _ _, .int _ _]) rfl rfl rfl) ?_
              refine xl_heavy rfl rfl rfl (hv_buildSlice (cs := [.int _ _, .int _ _, .int _ _, .int _ _]) rfl rfl rfl rfl rfl) ?_
              rintro v5_15 H5_15 ⟨b5_15, rfl, hN5_15⟩
              have gb5_15 := hX.fresh hN5_15
              have nm1_1_5_15 := m1_1.apart hN5_15
              have nm2_1_5_15 := m2_1.apart hN5_15
              have nm3_21_5_15 := m3_21.apart hN5_15
              have m1_1 := m1_1.ext hN5_15.ext
              have m2_1 := m2_1.ext hN5_15.ext
              have hR3_2 := hR3_2.ext hN5_15.ext
              have hR3_7 := hR3_7.ext hN5_15.ext
              have hR3_13 := hR3_13.ext hN5_15.ext
              have m3_21 := m3_21.ext hN5_15.ext
              have hR3_22 := hR3_22.ext hN5_15.ext
              have hX := hX.trans hN5_15.ext
              have m5_15 := hN5_15.blk
              refine xl_heavy rfl rfl rfl (hv_call (g := 23) rfl rfl (gSame (ofS [[1, 0, 1, 1, 4], [1, 0, 1, 2, 4]] 1 0 1) [((1 : Int), (4 : Int)), ((2 : Int), (4 : Int))] _ _ _ _ (hQ5_12.ext hN5_15.ext) (stks_blk (l := [((1 : Int), (4 : Int)), ((2 : Int), (4 : Int))]) m5_15) (by decide)) rfl) ?_
              rintro v5_16 H5_16 ⟨r5_16, rfl, hb5_16, rfl⟩
              obtain rfl : r5_16 = true := hb5_16.2 (by decide)
              refine xl_pure rfl rfl rfl (pv_pick_t (v := .bool _) rfl rfl rfl) ?_
              refine xl_pure rfl rfl rfl (pv_move (v := .bool _) rfl rfl) ?_
              refine xl_pure rfl rfl rfl (pv_move (v := .pointer _) rfl rfl) ?_
              refine xl_heavy rfl rfl rfl (hv_call (g := 12) rfl rfl (c12 (l := [[1, 0, 1, 1, 4], [1, 0, 1, 2, 4]]) m1_1 hR3_22 hc3_22 hna3_22 (by decide)) rfl) ?_
              rintro v5_20 H5_20 ⟨a5_20, c5_20, rfl, hQ5_20, hE5_20⟩
              have m1_1 := m1_1.ext hE5_20
              have m2_1 := m2_1.ext hE5_20
              have hR3_2 := hR3_2.ext hE5_20
              have hR3_7 := hR3_7.ext hE5_20
              have hR3_13 := hR3_13.ext hE5_20
              have m3_21 := m3_21.ext hE5_20
              have hR3_22 := hR3_22.ext hE5_20
              have m5_15 := m5_15.ext hE5_20
              have hX := hX.trans hE5_20
              refine xl_pure rfl rfl rfl (pv_len_l rfl rfl) ?_
              refine xl_dec rfl rfl rfl (pv_eql rfl rfl rfl) (fun h5_22 => ?_) (fun h5_22 => ?_)
              · skip
                refine xl_pure rfl rfl rfl (pv_pick_t (v := .bool _) rfl rfl rfl) ?_
                refine xl_pure rfl rfl rfl (pv_assign (v := .bool _) rfl rfl) ?_
                refine xl_nil ?_
                refine xthen_normal ?_
                refine xc_ret ?_
                refine fin_ret (res1 (v := .bool _) rfl rfl) ?_
                exact ⟨rfl, hX⟩
              · exact absurd rfl h5_22
            · exact absurd rfl h5_7
          · exact absurd rfl h5_3
        · exact absurd rfl h3_23
      · exact absurd rfl h3_14
    · exact absurd rfl h3_8
  · exact absurd rfl h3_3

theorem c3 {O : Outer} {H : Heap} (r : BAct) :
    FnC Try.prog 3 #[.agg #[.int .i64 r.k, .int .i64 r.n, .int .i64 r.a0, .int .i64 r.a1, .int .i64 r.a2, .int .i64 r.a3, .int .i64 r.b0, .int .i64 r.b1, .int .i64 r.b2, .int .i64 r.b3, .slice r.sa r.s.length r.sc]] O H (fun v H' => v = .bool true ∧ Ext H H') := by
  refine fn_enter (A := [.agg #[.int .i64 r.k, .int .i64 r.n, .int .i64 r.a0, .int .i64 r.a1, .int .i64 r.a2, .int .i64 r.a3, .int .i64 r.b0, .int .i64 r.b1, .int .i64 r.b2, .int .i64 r.b3, .slice r.sa r.s.length r.sc]]) Try.func3 rfl rfl ?_
  have hX := Ext.refl H
  refine xc_seq ?_
  refine xc_region ?_
  refine xl_heavy rfl rfl rfl (hv_box rfl rfl) ?_
  rintro v0_0 H0_0 ⟨b0_0, rfl, hN0_0⟩
  have gb0_0 := hX.fresh hN0_0
  have hX := hX.trans hN0_0.ext
  have m0_0 := hN0_0.blk
  refine xl_pure rfl rfl rfl (pv_assign (v := .bool _) rfl rfl) ?_
  refine xl_nil ?_
  refine xthen_normal ?_
  refine xc_seq ?_
  refine xc_seq ?_
  refine xc_region ?_
  refine xl_pure rfl rfl rfl (pv_fieldAddr rfl rfl) ?_
  refine xl_light rfl rfl rfl (lv_load (v := .slice _ _ _) rfl rfl (ld_blk m0_0 rfl)) ?_
  refine xl_pure rfl rfl rfl (pv_len_l rfl rfl) ?_
  refine xl_dec rfl rfl rfl (pv_gtr rfl rfl rfl) (fun h1_3 => ?_) (fun h1_3 => ?_)
  · skip
    refine xl_nil ?_
    refine xthen_normal ?_
    refine xc_cond_t rfl ?_
    refine xc_seq ?_
    refine xc_region ?_
    refine xl_heavy rfl rfl rfl (hv_call (g := 7) rfl rfl (c7) rfl) ?_
    rintro v2_0 H2_0 ⟨rfl, hE2_0⟩
    have m0_0 := m0_0.ext hE2_0
    have hX := hX.trans hE2_0
    refine xl_pure rfl rfl rfl (pv_assign (v := .bool _) rfl rfl) ?_
    refine xl_nil ?_
    refine xthen_normal ?_
    refine xc_ret ?_
    refine xthen_ret ?_
    refine fin_ret (res1 (v := .bool _) rfl rfl) ?_
    exact ⟨rfl, hX⟩
  · skip
    refine xl_nil ?_
    refine xthen_normal ?_
    refine xc_cond_f rfl ?_
    refine xc_skip ?_
    refine xthen_normal ?_
    refine xc_seq ?_
    refine xc_region ?_
    refine xl_pure rfl rfl rfl (pv_assign (v := .pointer _) rfl rfl) ?_
    refine xl_nil ?_
    refine xthen_normal ?_
    refine xc_seq ?_
    refine xc_region ?_
    refine xl_pure rfl rfl rfl (pv_move (v := .pointer _) rfl rfl) ?_
    refine xl_heavy rfl rfl rfl (hv_call (g := 8) rfl rfl (c8n) rfl) ?_
    rintro v4_1 H4_1 ⟨b4_1, rfl, m4_1, hF4_1, hE4_1⟩
    have gb4_1 : Fresh H b4_1 := ⟨Nat.le_trans hX.size hF4_1.le⟩
    have nm0_0_4_1 : Apart b0_0 b4_1 := ⟨Nat.ne_of_lt (Nat.lt_of_lt_of_le m0_0.lt hF4_1.le)⟩
    have m0_0 := m0_0.ext hE4_1
    have hX := hX.trans hE4_1
    refine xl_pure rfl rfl rfl (pv_assign (v := .pointer _) rfl rfl) ?_
    refine xl_nil ?_
    refine xthen_normal ?_
    refine xc_seq ?_
    refine xc_region ?_
    refine xl_pure rfl rfl rfl (pv_move (v := .pointer _) rfl rfl) ?_
    refine xl_light rfl rfl rfl (lv_load (v := .agg _) rfl rfl (by exact ld_blk_a m0_0 rfl rfl)) ?_
    refine xl_heavy rfl rfl rfl (hv_call (g := 9) rfl rfl (c9n r) rfl) ?_
    rintro v5_2 H5_2 ⟨rfl, hE5_2⟩
    have m0_0 := m0_0.ext hE5_2
    have m4_1 := m4_1.ext hE5_2
    have hX := hX.trans hE5_2
    refine xl_dec rfl rfl rfl (pv_eql rfl rfl rfl) (fun h5_3 => ?_) (fun h5_3 => ?_)
    · skip
      refine xl_pure rfl rfl rfl (pv_move (v := .bool _) rfl rfl) ?_
      refine xl_pure rfl rfl rfl (pv_move (v := .pointer _) rfl rfl) ?_
      refine xl_pure rfl rfl rfl (pv_fieldAddr rfl rfl) ?_
      refine xl_light rfl rfl rfl (lv_load (v := .agg _) rfl rfl (by exact ld_part (off := 0) (k := 2) (cs := [.int .i64 r.a0, .int .i64 r.a1, .int .i64 r.a2, .int .i64 r.a3]) m0_0.row rfl rfl rfl)) ?_
      refine xl_heavy rfl rfl rfl (hv_call (g := 10) rfl rfl (c10n _ _ _ _) rfl) ?_
      rintro v5_8 H5_8 ⟨rfl, hE5_8⟩
      have m0_0 := m0_0.ext hE5_8
      have m4_1 := m4_1.ext hE5_8
      have hX := hX.trans hE5_8
      refine xl_dec rfl rfl rfl (pv_eql rfl rfl rfl) (fun h5_9 => ?_) (fun h5_9 => ?_)
      · skip
        refine xl_pure rfl rfl rfl (pv_pick_t (v := .bool _) rfl rfl rfl) ?_
        refine xl_pure rfl rfl rfl (pv_move (v := .bool _) rfl rfl) ?_
        refine xl_pure rfl rfl rfl (pv_move (v := .pointer _) rfl rfl) ?_
        refine xl_pure rfl rfl rfl (pv_fieldAddr rfl rfl) ?_
        refine xl_light rfl rfl rfl (lv_load (v := .int _ _) rfl rfl (ld_blk m0_0 rfl)) ?_
        refine xl_heavy rfl rfl rfl (hv_call (g := 11) rfl rfl (c11n _) rfl) ?_
        rintro v5_15 H5_15 ⟨rfl, rfl⟩
        refine xl_dec rfl rfl rfl (pv_eql rfl rfl rfl) (fun h5_16 => ?_) (fun h5_16 => ?_)
        · skip
          refine xl_pure rfl rfl rfl (pv_pick_t (v := .bool _) rfl rfl rfl) ?_
          refine xl_pure rfl rfl rfl (pv_move (v := .bool _) rfl rfl) ?_
          refine xl_pure rfl rfl rfl (pv_move (v := .pointer _) rfl rfl) ?_
          refine xl_heavy rfl rfl rfl (hv_call (g := 12) rfl rfl (c12n) rfl) ?_
          rintro v5_20 H5_20 ⟨rfl, hE5_20⟩
          have m0_0 := m0_0.ext hE5_20
          have m4_1 := m4_1.ext hE5_20
          have hX := hX.trans hE5_20
          refine xl_pure rfl rfl rfl (pv_len_l rfl rfl) ?_
          refine xl_dec rfl rfl rfl (pv_eql rfl rfl rfl) (fun h5_22 => ?_) (fun h5_22 => ?_)
          · skip
            refine xl_pure rfl rfl rfl (pv_pick_t (v := .bool _) rfl rfl rfl) ?_
            refine xl_pure rfl rfl rfl (pv_move (v := .bool _) rfl rfl) ?_
            refine xl_pure rfl rfl rfl (pv_move (v := .pointer _) rfl rfl) ?_
            refine xl_pure rfl rfl rfl (pv_fieldAddr rfl rfl) ?_
            refine xl_light rfl rfl rfl (lv_load (v := .agg _) rfl rfl (by exact ld_part (off := 0) (k := 2) (cs := [.int .i64 r.a0, .int .i64 r.a1, .int .i64 r.a2, .int .i64 r.a3]) m0_0.row rfl rfl rfl)) ?_
            refine xl_heavy rfl rfl rfl (hv_call (g := 13) rfl rfl (c13n _ _ _ _) rfl) ?_
            rintro v5_28 H5_28 ⟨rfl, hE5_28⟩
            have m0_0 := m0_0.ext hE5_28
            have m4_1 := m4_1.ext hE5_28
            have hX := hX.trans hE5_28
            refine xl_pure rfl rfl rfl (pv_len_l rfl rfl) ?_
            refine xl_dec rfl rfl rfl (pv_eql rfl rfl rfl) (fun h5_30 => ?_) (fun h5_30 => ?_)
            · skip
              refine xl_pure rfl rfl rfl (pv_pick_t (v := .bool _) rfl rfl rfl) ?_
              refine xl_pure rfl rfl rfl (pv_move (v := .bool _) rfl rfl) ?_
              refine xl_pure rfl rfl rfl (pv_move (v := .pointer _) rfl rfl) ?_
              refine xl_pure rfl rfl rfl (pv_neq_pn rfl rfl rfl) ?_
              refine xl_pure rfl rfl rfl (pv_pick_t (v := .bool _) rfl rfl rfl) ?_
              refine xl_pure rfl rfl rfl (pv_move (v := .bool _) rfl rfl) ?_
              refine xl_pure rfl rfl rfl (pv_move (v := .pointer _) rfl rfl) ?_
              refine xl_heavy rfl rfl rfl (hv_call (g := 12) rfl rfl (c12 (l := []) m4_1 RowsT.nil (Nat.le_refl _) (fun _ => rfl) (by decide)) rfl) ?_
              rintro v5_38 H5_38 ⟨a5_38, c5_38, rfl, hQ5_38, hE5_38⟩
              have m0_0 := m0_0.ext hE5_38
              have m4_1 := m4_1.ext hE5_38
              have hX := hX.trans hE5_38
              refine xl_pure rfl rfl rfl (pv_len_l rfl rfl) ?_
              refine xl_dec rfl rfl rfl (pv_eql rfl rfl rfl) (fun h5_40 => ?_) (fun h5_40 => ?_)
              · skip
                refine xl_pure rfl rfl rfl (pv_pick_t (v := .bool _) rfl rfl rfl) ?_
                refine xl_pure rfl rfl rfl (pv_move (v := .bool _) rfl rfl) ?_
                refine xl_heavy rfl rfl rfl (hv_call (g := 7) rfl rfl (c7) rfl) ?_
                rintro v5_43 H5_43 ⟨rfl, hE5_43⟩
                have m0_0 := m0_0.ext hE5_43
                have m4_1 := m4_1.ext hE5_43
                have hX := hX.trans hE5_43
                refine xl_pure rfl rfl rfl (pv_pick_t (v := .bool _) rfl rfl rfl) ?_
                refine xl_pure rfl rfl rfl (pv_assign (v := .bool _) rfl rfl) ?_
                refine xl_nil ?_
                refine xthen_normal ?_
                refine xc_ret ?_
                refine fin_ret (res1 (v := .bool _) rfl rfl) ?_
                exact ⟨rfl, hX⟩
              · exact absurd rfl h5_40
            · exact absurd rfl h5_30
          · exact absurd rfl h5_22
        · exact absurd rfl h5_16
      · exact absurd rfl h5_9
    · exact absurd rfl h5_3
end Go.XG
