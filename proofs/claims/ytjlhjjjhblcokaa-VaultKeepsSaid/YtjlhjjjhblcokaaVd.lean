/-
  Walks of the seat's functions over the logic XG: each function, what it computes. Printed by a program out of wip/walks.py.
-/
import Derived.Test.YtjlhjjjhblcokaaI
import Derived.Test.YtjlhjjjhblcokaaXs
import Derived.Test.YtjlhjjjhblcokaaTo
import Derived.Test.YtjlhjjjhblcokaaTa
import Derived.Test.YtjlhjjjhblcokaaTb
import Derived.Test.YtjlhjjjhblcokaaKb
import Derived.Test.YtjlhjjjhblcokaaBa
import Derived.Test.YtjlhjjjhblcokaaBb
import Derived.Test.YtjlhjjjhblcokaaBc
import Derived.Test.YtjlhjjjhblcokaaKp
import Derived.Test.YtjlhjjjhblcokaaUa
import Derived.Test.YtjlhjjjhblcokaaKv
import Derived.Test.YtjlhjjjhblcokaaXw
import Derived.Test.YtjlhjjjhblcokaaVa
import Derived.Test.YtjlhjjjhblcokaaVb
import Derived.Test.YtjlhjjjhblcokaaVc
namespace Go.XG
open Go.Proofs
set_option maxRecDepth 20000
set_option maxHeartbeats 4000000
theorem all_stay {d : Bool} {l : List (List Int)} {k0 k1 k2 : Int} {s : List Stack} (h : allE d l k0 k1 k2 s ≠ 0) : allX d l k0 k1 k2 s = l := if_neg h
theorem stks_blk {H : Heap} {b t : Nat} {l : List Stack} (h : Blk H b (fl l) t) : Stks H (some ⟨b, 0, none⟩) l := .inr ⟨b, 0, rfl, stks_row h.row⟩
theorem rowsO_blk {H : Heap} {b q k : Nat} {l : List (List Int)} (hw : Wide k l) (h : RowsAt H b 0 k l) (hq : b ≠ q) : RowsO H q (some ⟨b, 0, none⟩) k l := ⟨⟨hw, .inr ⟨b, 0, rfl, h⟩⟩, fun g o e _ => by cases e; exact hq⟩

theorem c11 {O : Outer} {H : Heap}  :
    FnC Try.prog 11 #[] O H (fun v H' => v = .bool true ∧ Ext H H') := by
  have hw3 : Wide 3 [[0, 1, 6]] := fun r hr => by rw [List.mem_singleton] at hr; rw [hr]; rfl
  have tots0 : Tots [] (List.replicate 33 0) := ⟨rfl, fun t h1 h2 => rep_get⟩
  refine fn_enter (A := []) Try.func11 rfl rfl ?_
  have hX := Ext.refl H
  refine xc_seq ?_
  refine xc_region ?_
  refine xl_pure rfl rfl rfl (pv_assign (v := .bool _) rfl rfl) ?_
  refine xl_nil ?_
  refine xthen_normal ?_
  refine xc_seq ?_
  refine xc_region ?_
  refine xl_pure rfl rfl rfl (pv_build_s (cs := .slice none 0 0 :: ints (List.replicate 33 0)) rfl rfl (by kernel_rfl)) ?_
  refine xl_heavy rfl rfl rfl (hv_box rfl rfl) ?_
  rintro v1_1 H1_1 ⟨b1_1, rfl, hN1_1⟩
  have gb1_1 := hX.fresh hN1_1
  have hX := hX.trans hN1_1.ext
  have m1_1 := hN1_1.blk
  refine xl_pure rfl rfl rfl (pv_assign (v := .pointer _) rfl rfl) ?_
  refine xl_nil ?_
  refine xthen_normal ?_
  refine xc_seq ?_
  refine xc_region ?_
  refine xl_pure rfl rfl rfl (pv_build_s (cs := [.int _ _, .int _ _, .int _ _, .int _ _]) rfl rfl rfl) ?_
  refine xl_heavy rfl rfl rfl (hv_alloc rfl rfl) ?_
  rintro v2_1 H2_1 ⟨b2_1, rfl, hN2_1⟩
  have gb2_1 := hX.fresh hN2_1
  have nm1_1_2_1 := m1_1.apart hN2_1
  have m1_1 := m1_1.ext hN2_1.ext
  have hX := hX.trans hN2_1.ext
  have m2_1 := hN2_1.blk
  refine xl_store rfl rfl (hv_storeA (vs := [.int _ _, .int _ _, .int _ _, .int _ _]) rfl rfl rfl (m2_1) rfl (by rfl) rfl) ?_
  rintro v2_2 H2_2 ⟨hU2_2, hZ2_2⟩
  have m1_1 := m1_1.off hU2_2.but (by first | exact nm1_1_2_1 | exact ⟨m1_1.ne m2_1 rfl⟩ | exact ⟨m1_1.ne m2_1 (by assumption)⟩ | exact ⟨Ne.symm (m2_1.ne m1_1 (by assumption))⟩)
  have hX := hX.upd hU2_2.but gb2_1
  have m2_1 := hU2_2.blk
  refine xl_nil ?_
  refine xthen_normal ?_
  refine xc_seq ?_
  refine xc_region ?_
  refine xl_heavy rfl rfl rfl (hv_call (g := 7) rfl rfl (c7 1 3) rfl) ?_
  rintro v3_0 H3_0 ⟨hv3_0, rfl⟩
  obtain rfl : v3_0 = .tuple #[.int .i64 1048579, .int .i64 0] := by rcases hv3_0 with ⟨_, h⟩ | ⟨h, _⟩; exact h; exact absurd (by decide) h
  refine xl_pure rfl rfl rfl (pv_move (v := .tuple _) rfl rfl) ?_
  refine xl_pure rfl rfl rfl (pv_extract (v := .int _ _) rfl rfl rfl) ?_
  refine xl_pure rfl rfl rfl (pv_extract (v := .int _ _) rfl rfl rfl) ?_
  refine xl_pure rfl rfl rfl (pv_assign (v := .int _ _) rfl rfl) ?_
  refine xl_pure rfl rfl rfl (pv_assign (v := .int _ _) rfl rfl) ?_
  refine xl_nil ?_
  refine xthen_normal ?_
  refine xc_seq ?_
  refine xc_seq ?_
  refine xc_region ?_
  refine xl_pure rfl rfl rfl (pv_move (v := .pointer _) rfl rfl) ?_
  refine xl_light rfl rfl rfl (lv_load (v := .agg _) rfl rfl (ld_blk_a m2_1 rfl rfl)) ?_
  refine xl_heavy rfl rfl rfl (hv_call (g := 40) rfl rfl (c40 (l := []) m1_1 RowsT.nil (Nat.le_refl _) (fun _ => rfl) (by decide) gooL_nil tots0 1 0 2 3 5 (by decide)) rfl) ?_
  rintro v4_2 H4_2 ⟨a4_2, c4_2, T4_2, hv4_2, hB4_2, hT4_2, hR4_2, hc4_2, hna4_2, ht4_2⟩
  have m2_1 := m2_1.off hB4_2 (by first | exact nm1_1_2_1.symm | exact ⟨m2_1.ne m1_1 rfl⟩ | exact ⟨m2_1.ne m1_1 (by assumption)⟩ | exact ⟨Ne.symm (m1_1.ne m2_1 (by assumption))⟩)
  have hX := hX.upd hB4_2 gb1_1
  have m1_1 := hT4_2
  have e4_2 : layX [] [1, 0, 2, 3] 5 = [[1, 0, 2, 3, 5]] := by decide
  have hgo4_2 : GooL [[1, 0, 2, 3, 5]] := by have h := (goo_lay (k := [1, 0, 2, 3]) (n := 5) gooL_nil rfl).1; rw [e4_2] at h; exact h
  rw [e4_2] at m1_1 hR4_2 hc4_2 ht4_2
  obtain rfl : v4_2 = .int .i64 0 := hv4_2.trans (congrArg (Value.int .i64) (by decide))
  refine xl_ndec rfl rfl rfl (pv_neq rfl rfl rfl) (fun h4_3 => ?_) (fun h4_3 => ?_)
  · skip
    refine xl_pure rfl rfl rfl (pv_move (v := .bool _) rfl rfl) ?_
    refine xl_pure rfl rfl rfl (pv_move (v := .pointer _) rfl rfl) ?_
    refine xl_light rfl rfl rfl (lv_load (v := .agg _) rfl rfl (ld_blk_a m2_1 rfl rfl)) ?_
    refine xl_pure rfl rfl rfl (pv_build_s (cs := [.int _ _, .int _ _]) rfl rfl rfl) ?_
    refine xl_heavy rfl rfl rfl (hv_buildSlice (cs := [.int _ _, .int _ _]) rfl rfl rfl rfl rfl) ?_
    rintro v4_8 H4_8 ⟨b4_8, rfl, hN4_8⟩
    have gb4_8 := hX.fresh hN4_8
    have nm1_1_4_8 := m1_1.apart hN4_8
    have nm2_1_4_8 := m2_1.apart hN4_8
    have m1_1 := m1_1.ext hN4_8.ext
    have m2_1 := m2_1.ext hN4_8.ext
    have hR4_2 := hR4_2.ext hN4_8.ext
    have hX := hX.trans hN4_8.ext
    have m4_8 := hN4_8.blk
    refine xl_heavy rfl rfl rfl (hv_call (g := 17) rfl rfl (c17 (l := [[1, 0, 2, 3, 5]]) m1_1 hR4_2 hc4_2 hna4_2 (by decide) hgo4_2 ht4_2 (sc := 1) (s := [((3 : Int), (4 : Int))]) ⟨stks_blk (l := [((3 : Int), (4 : Int))]) m4_8, fun g o he h0 => by cases he; exact Ne.symm nm1_1_4_8.ne⟩ (by decide) 1 0 2 3 1 3) rfl) ?_
    rintro v4_9 H4_9 ⟨a4_9, c4_9, T4_9, hv4_9, hB4_9, hT4_9, hR4_9, hc4_9, hna4_9, ht4_9⟩
    have m2_1 := m2_1.off hB4_9 (by first | exact nm1_1_2_1.symm | exact ⟨m2_1.ne m1_1 rfl⟩ | exact ⟨m2_1.ne m1_1 (by assumption)⟩ | exact ⟨Ne.symm (m1_1.ne m2_1 (by assumption))⟩)
    have hR4_2 := hR4_2.offT m1_1 hB4_9 (by first | rfl | assumption)
    have m4_8 := m4_8.off hB4_9 (by first | exact nm1_1_4_8.symm | exact ⟨m4_8.ne m1_1 rfl⟩ | exact ⟨m4_8.ne m1_1 (by assumption)⟩ | exact ⟨Ne.symm (m1_1.ne m4_8 (by assumption))⟩)
    have hX := hX.upd hB4_9 gb1_1
    have m1_1 := hT4_9
    have e4_9 : lkX [[1, 0, 2, 3, 5]] 1 0 2 1 3 [((3 : Int), (4 : Int))] = [[1, 0, 2, 3, 1], [1048579, 0, 2, 3, 4]] := by decide
    have hgo4_9 : GooL [[1, 0, 2, 3, 1], [1048579, 0, 2, 3, 4]] := by have h := (goo_lk (f0 := 1) (f1 := 0) (f2 := 2) (w := 1) (i := 3) (s := [((3 : Int), (4 : Int))]) hgo4_2).1; rw [e4_9] at h; exact h
    rw [e4_9] at m1_1 hR4_9 hc4_9 ht4_9
    obtain rfl : v4_9 = .int .i64 0 := hv4_9.trans (congrArg (Value.int .i64) (by decide))
    refine xl_ndec rfl rfl rfl (pv_neq rfl rfl rfl) (fun h4_10 => ?_) (fun h4_10 => ?_)
    · skip
      refine xl_pure rfl rfl rfl (pv_pick_f (v := .bool _) rfl rfl rfl) ?_
      refine xl_pure rfl rfl rfl (pv_move (v := .bool _) rfl rfl) ?_
      refine xl_pure rfl rfl rfl (pv_move (v := .int _ _) rfl rfl) ?_
      refine xl_ndec rfl rfl rfl (pv_neq rfl rfl rfl) (fun h4_14 => ?_) (fun h4_14 => ?_)
      · skip
        refine xl_pure rfl rfl rfl (pv_pick_f (v := .bool _) rfl rfl rfl) ?_
        refine xl_pure rfl rfl rfl (pv_move (v := .bool _) rfl rfl) ?_
        refine xl_pure rfl rfl rfl (pv_move (v := .int _ _) rfl rfl) ?_
        refine xl_ndec rfl rfl rfl (pv_neq rfl rfl rfl) (fun h4_18 => ?_) (fun h4_18 => ?_)
        · skip
          refine xl_pure rfl rfl rfl (pv_pick_f (v := .bool _) rfl rfl rfl) ?_
          refine xl_nil ?_
          refine xthen_normal ?_
          refine xc_cond_f rfl ?_
          refine xc_skip ?_
          refine xthen_normal ?_
          refine xc_seq ?_
          refine xc_region ?_
          refine xl_pure rfl rfl rfl (pv_move (v := .pointer _) rfl rfl) ?_
          have hlt6 := m1_1.lt
          refine xl_heavy rfl rfl rfl (hv_call (g := 15) rfl rfl (c15 (l := [[1, 0, 2, 3, 1], [1048579, 0, 2, 3, 4]]) m1_1 hR4_9 hc4_9 hna4_9 (by decide) hgo4_9 ht4_9 1 3 2) rfl) ?_
          rintro v6_1 H6_1 ⟨a6_1, c6_1, rfl, hQ6_1, hE6_1⟩
          have m1_1 := m1_1.ext hE6_1
          have m2_1 := m2_1.ext hE6_1
          have hR4_2 := hR4_2.ext hE6_1
          have m4_8 := m4_8.ext hE6_1
          have hR4_9 := hR4_9.ext hE6_1
          have hX := hX.trans hE6_1
          refine xl_pure rfl rfl rfl (pv_assign (v := .slice _ _ _) rfl rfl) ?_
          refine xl_nil ?_
          refine xthen_normal ?_
          refine xc_seq ?_
          refine xc_region ?_
          refine xl_pure rfl rfl rfl (pv_move (v := .pointer _) rfl rfl) ?_
          refine xl_pure rfl rfl rfl (pv_build_s (cs := [.int _ _, .int _ _, .int _ _, .int _ _]) rfl rfl rfl) ?_
          refine xl_heavy rfl rfl rfl (hv_call (g := 19) rfl rfl (c19 (l := [[1, 0, 2, 3, 1], [1048579, 0, 2, 3, 4]]) m1_1 hR4_9 hc4_9 hna4_9 (by decide) hgo4_9 ht4_9 1 3 2 7 0 2 0) rfl) ?_
          rintro v7_2 H7_2 ⟨a7_2, c7_2, T7_2, hv7_2, hB7_2, hT7_2, hR7_2, hc7_2, hna7_2, ht7_2⟩
          have m2_1 := m2_1.off hB7_2 (by first | exact nm1_1_2_1.symm | exact ⟨m2_1.ne m1_1 rfl⟩ | exact ⟨m2_1.ne m1_1 (by assumption)⟩ | exact ⟨Ne.symm (m1_1.ne m2_1 (by assumption))⟩)
          have hR4_2 := hR4_2.offT m1_1 hB7_2 (by first | rfl | assumption)
          have m4_8 := m4_8.off hB7_2 (by first | exact nm1_1_4_8.symm | exact ⟨m4_8.ne m1_1 rfl⟩ | exact ⟨m4_8.ne m1_1 (by assumption)⟩ | exact ⟨Ne.symm (m1_1.ne m4_8 (by assumption))⟩)
          have hR4_9 := hR4_9.offT m1_1 hB7_2 (by first | rfl | assumption)
          have hX := hX.upd hB7_2 gb1_1
          have m1_1 := hT7_2
          have e7_2 : reX [[1, 0, 2, 3, 1], [1048579, 0, 2, 3, 4]] 1 3 2 7 0 2 = [[1, 0, 2, 3, 1], [7, 0, 2, 3, 4]] := by decide
          have hgo7_2 : GooL [[1, 0, 2, 3, 1], [7, 0, 2, 3, 4]] := by have h := (goo_re (w := 1) (i := 3) (p := 2) (t0 := 7) (t1 := 0) (t2 := 2) hgo4_9).1; rw [e7_2] at h; exact h
          rw [e7_2] at m1_1 hR7_2 hc7_2 ht7_2
          obtain rfl : v7_2 = .int .i64 0 := hv7_2.trans (congrArg (Value.int .i64) (by decide))
          have hQ := hQ6_1.but hB7_2 hlt6
          refine xl_pure rfl rfl rfl (pv_assign (v := .int _ _) rfl rfl) ?_
          refine xl_nil ?_
          refine xthen_normal ?_
          refine xc_seq ?_
          refine xc_region ?_
          refine xl_pure rfl rfl rfl (pv_build_s (cs := [.slice _ _ _, .int _ _]) rfl rfl rfl) ?_
          refine xl_heavy rfl rfl rfl (hv_box rfl rfl) ?_
          rintro v8_1 H8_1 ⟨b8_1, rfl, hN8_1⟩
          have gb8_1 := hX.fresh hN8_1
          have nm1_1_8_1 := m1_1.apart hN8_1
          have nm2_1_8_1 := m2_1.apart hN8_1
          have nm4_8_8_1 := m4_8.apart hN8_1
          have m1_1 := m1_1.ext hN8_1.ext
          have m2_1 := m2_1.ext hN8_1.ext
          have hR4_2 := hR4_2.ext hN8_1.ext
          have m4_8 := m4_8.ext hN8_1.ext
          have hR4_9 := hR4_9.ext hN8_1.ext
          have hR7_2 := hR7_2.ext hN8_1.ext
          have hX := hX.trans hN8_1.ext
          have m8_1 := hN8_1.blk
          have hQ := stksO_new hQ.st hN8_1.ext hN8_1.ge
          refine xl_pure rfl rfl rfl (pv_assign (v := .pointer _) rfl rfl) ?_
          refine xl_nil ?_
          refine xthen_normal ?_
          refine xc_seq ?_
          refine xc_seq ?_
          refine xc_region ?_
          refine xl_pure rfl rfl rfl (pv_move (v := .pointer _) rfl rfl) ?_
          refine xl_heavy rfl rfl rfl (hv_call (g := 41) rfl rfl (Pu.c41 (x := []) m8_1 (RowsT.nil) (Nat.le_refl _) (fun _ => rfl) (by decide) (Pu.goo_of (by decide) (by decide) (by decide) (by decide)) 1) rfl) ?_
          rintro v9_1 H9_1 ⟨a9_1, c9_1, hv9_1, hB9_1, hT9_1, hR9_1, hc9_1, hna9_1⟩
          have m1_1 := m1_1.off hB9_1 (by first | exact nm1_1_8_1 | exact ⟨m1_1.ne m8_1 rfl⟩ | exact ⟨m1_1.ne m8_1 (by assumption)⟩ | exact ⟨Ne.symm (m8_1.ne m1_1 (by assumption))⟩)
          have m2_1 := m2_1.off hB9_1 (by first | exact nm2_1_8_1 | exact ⟨m2_1.ne m8_1 rfl⟩ | exact ⟨m2_1.ne m8_1 (by assumption)⟩ | exact ⟨Ne.symm (m8_1.ne m2_1 (by assumption))⟩)
          have hR4_2 := hR4_2.offT m8_1 hB9_1 (by first | rfl | assumption)
          have m4_8 := m4_8.off hB9_1 (by first | exact nm4_8_8_1 | exact ⟨m4_8.ne m8_1 rfl⟩ | exact ⟨m4_8.ne m8_1 (by assumption)⟩ | exact ⟨Ne.symm (m8_1.ne m4_8 (by assumption))⟩)
          have hR4_9 := hR4_9.offT m8_1 hB9_1 (by first | rfl | assumption)
          have hR7_2 := hR7_2.offT m8_1 hB9_1 (by first | rfl | assumption)
          have hQ := hQ.butO hB9_1
          have hX := hX.upd hB9_1 gb8_1
          have m8_1 := hT9_1
          have e9_1 : Pu.openX [] 1 = [[1, 0]] := by decide
          rw [e9_1] at m8_1 hR9_1 hc9_1
          obtain rfl : v9_1 = .int .i64 0 := hv9_1.trans (congrArg (Value.int .i64) (by decide))
          refine xl_ndec rfl rfl rfl (pv_neq rfl rfl rfl) (fun h9_2 => ?_) (fun h9_2 => ?_)
          · skip
            refine xl_pure rfl rfl rfl (pv_move (v := .bool _) rfl rfl) ?_
            refine xl_pure rfl rfl rfl (pv_move (v := .pointer _) rfl rfl) ?_
            refine xl_heavy rfl rfl rfl (hv_call (g := 42) rfl rfl (Pu.c42 (x := [[1, 0]]) m8_1 hR9_1 hc9_1 hna9_1 (by decide) (Pu.goo_of (by decide) (by decide) (by decide) (by decide)) 1 9 (by decide)) rfl) ?_
            rintro v9_5 H9_5 ⟨a9_5, c9_5, hv9_5, hB9_5, hT9_5, hR9_5, hc9_5, hna9_5⟩
            have m1_1 := m1_1.off hB9_5 (by first | exact nm1_1_8_1 | exact ⟨m1_1.ne m8_1 rfl⟩ | exact ⟨m1_1.ne m8_1 (by assumption)⟩ | exact ⟨Ne.symm (m8_1.ne m1_1 (by assumption))⟩)
            have m2_1 := m2_1.off hB9_5 (by first | exact nm2_1_8_1 | exact ⟨m2_1.ne m8_1 rfl⟩ | exact ⟨m2_1.ne m8_1 (by assumption)⟩ | exact ⟨Ne.symm (m8_1.ne m2_1 (by assumption))⟩)
            have hR4_2 := hR4_2.offT m8_1 hB9_5 (by first | rfl | assumption)
            have m4_8 := m4_8.off hB9_5 (by first | exact nm4_8_8_1 | exact ⟨m4_8.ne m8_1 rfl⟩ | exact ⟨m4_8.ne m8_1 (by assumption)⟩ | exact ⟨Ne.symm (m8_1.ne m4_8 (by assumption))⟩)
            have hR4_9 := hR4_9.offT m8_1 hB9_5 (by first | rfl | assumption)
            have hR7_2 := hR7_2.offT m8_1 hB9_5 (by first | rfl | assumption)
            have hQ := hQ.butO hB9_5
            have hR9_1 := hR9_1.offT m8_1 hB9_5 (by first | rfl | assumption)
            have hX := hX.upd hB9_5 gb8_1
            have m8_1 := hT9_5
            have e9_5 : Pu.giveX [[1, 0]] 1 9 = [[1, 9]] := by decide
            rw [e9_5] at m8_1 hR9_5 hc9_5
            obtain rfl : v9_5 = .int .i64 0 := hv9_5.trans (congrArg (Value.int .i64) (by decide))
            refine xl_ndec rfl rfl rfl (pv_neq rfl rfl rfl) (fun h9_6 => ?_) (fun h9_6 => ?_)
            · skip
              refine xl_pure rfl rfl rfl (pv_pick_f (v := .bool _) rfl rfl rfl) ?_
              refine xl_pure rfl rfl rfl (pv_move (v := .bool _) rfl rfl) ?_
              refine xl_pure rfl rfl rfl (pv_move (v := .pointer _) rfl rfl) ?_
              refine xl_heavy rfl rfl rfl (hv_call (g := 29) rfl rfl (Pu.c29 (x := [[1, 9]]) m8_1 hR9_5 hc9_5 hna9_5 (by decide) (Pu.goo_of (by decide) (by decide) (by decide) (by decide)) 1 4 6) rfl) ?_
              rintro v9_10 H9_10 ⟨a9_10, c9_10, hv9_10, hB9_10, hT9_10, hR9_10, hc9_10, hna9_10⟩
              have m1_1 := m1_1.off hB9_10 (by first | exact nm1_1_8_1 | exact ⟨m1_1.ne m8_1 rfl⟩ | exact ⟨m1_1.ne m8_1 (by assumption)⟩ | exact ⟨Ne.symm (m8_1.ne m1_1 (by assumption))⟩)
              have m2_1 := m2_1.off hB9_10 (by first | exact nm2_1_8_1 | exact ⟨m2_1.ne m8_1 rfl⟩ | exact ⟨m2_1.ne m8_1 (by assumption)⟩ | exact ⟨Ne.symm (m8_1.ne m2_1 (by assumption))⟩)
              have hR4_2 := hR4_2.offT m8_1 hB9_10 (by first | rfl | assumption)
              have m4_8 := m4_8.off hB9_10 (by first | exact nm4_8_8_1 | exact ⟨m4_8.ne m8_1 rfl⟩ | exact ⟨m4_8.ne m8_1 (by assumption)⟩ | exact ⟨Ne.symm (m8_1.ne m4_8 (by assumption))⟩)
              have hR4_9 := hR4_9.offT m8_1 hB9_10 (by first | rfl | assumption)
              have hR7_2 := hR7_2.offT m8_1 hB9_10 (by first | rfl | assumption)
              have hQ := hQ.butO hB9_10
              have hR9_1 := hR9_1.offT m8_1 hB9_10 (by first | rfl | assumption)
              have hR9_5 := hR9_5.offT m8_1 hB9_10 (by first | rfl | assumption)
              have hX := hX.upd hB9_10 gb8_1
              have m8_1 := hT9_10
              have e9_10 : Pu.payX [[1, 9]] 1 4 6 = [[1, 3], [2097156, 6]] := by decide
              rw [e9_10] at m8_1 hR9_10 hc9_10
              obtain rfl : v9_10 = .int .i64 0 := hv9_10.trans (congrArg (Value.int .i64) (by decide))
              refine xl_ndec rfl rfl rfl (pv_neq rfl rfl rfl) (fun h9_11 => ?_) (fun h9_11 => ?_)
              · skip
                refine xl_pure rfl rfl rfl (pv_pick_f (v := .bool _) rfl rfl rfl) ?_
                refine xl_pure rfl rfl rfl (pv_move (v := .bool _) rfl rfl) ?_
                refine xl_pure rfl rfl rfl (pv_move (v := .pointer _) rfl rfl) ?_
                refine xl_heavy rfl rfl rfl (hv_call (g := 33) rfl rfl (Pu.c33 (x := [[1, 3], [2097156, 6]]) m8_1 hR9_10 hc9_10 hna9_10 (by decide) (Pu.goo_of (by decide) (by decide) (by decide) (by decide)) 4) rfl) ?_
                rintro v9_15 H9_15 ⟨hv9_15, hE9_15⟩
                have m1_1 := m1_1.ext hE9_15
                have m2_1 := m2_1.ext hE9_15
                have hR4_2 := hR4_2.ext hE9_15
                have m4_8 := m4_8.ext hE9_15
                have hR4_9 := hR4_9.ext hE9_15
                have hR7_2 := hR7_2.ext hE9_15
                have m8_1 := m8_1.ext hE9_15
                have hQ := hQ.ext hE9_15
                have hR9_1 := hR9_1.ext hE9_15
                have hR9_5 := hR9_5.ext hE9_15
                have hR9_10 := hR9_10.ext hE9_15
                have hX := hX.trans hE9_15
                obtain rfl : v9_15 = .int .i64 6 := hv9_15.trans (congrArg (Value.int .i64) (by decide))
                refine xl_ndec rfl rfl rfl (pv_neq rfl rfl rfl) (fun h9_16 => ?_) (fun h9_16 => ?_)
                · skip
                  refine xl_pure rfl rfl rfl (pv_pick_f (v := .bool _) rfl rfl rfl) ?_
                  refine xl_nil ?_
                  refine xthen_normal ?_
                  refine xc_cond_f rfl ?_
                  refine xc_skip ?_
                  refine xthen_normal ?_
                  refine xc_seq ?_
                  refine xc_region ?_
                  refine xl_pure rfl rfl rfl (pv_move (v := .pointer _) rfl rfl) ?_
                  refine xl_pure rfl rfl rfl (pv_build_s (cs := [.int _ _, .int _ _, .int _ _]) rfl rfl rfl) ?_
                  refine xl_heavy rfl rfl rfl (hv_buildSlice (cs := [.int _ _, .int _ _, .int _ _]) rfl rfl rfl rfl rfl) ?_
                  rintro v11_2 H11_2 ⟨b11_2, rfl, hN11_2⟩
                  have gb11_2 := hX.fresh hN11_2
                  have nm1_1_11_2 := m1_1.apart hN11_2
                  have nm2_1_11_2 := m2_1.apart hN11_2
                  have nm4_8_11_2 := m4_8.apart hN11_2
                  have nm8_1_11_2 := m8_1.apart hN11_2
                  have m1_1 := m1_1.ext hN11_2.ext
                  have m2_1 := m2_1.ext hN11_2.ext
                  have hR4_2 := hR4_2.ext hN11_2.ext
                  have m4_8 := m4_8.ext hN11_2.ext
                  have hR4_9 := hR4_9.ext hN11_2.ext
                  have hR7_2 := hR7_2.ext hN11_2.ext
                  have m8_1 := m8_1.ext hN11_2.ext
                  have hQ := hQ.ext hN11_2.ext
                  have hR9_1 := hR9_1.ext hN11_2.ext
                  have hR9_5 := hR9_5.ext hN11_2.ext
                  have hR9_10 := hR9_10.ext hN11_2.ext
                  have hX := hX.trans hN11_2.ext
                  have m11_2 := hN11_2.blk
                  refine xl_heavy rfl rfl rfl (hv_call (g := 27) rfl rfl (Pu.c27 (x := [[1, 3], [2097156, 6]]) m8_1 hR9_10 hc9_10 hna9_10 (by decide) (Pu.goo_of (by decide) (by decide) (by decide) (by decide)) 4 (P := [[0, 1, 6]]) (rowsO_blk hw3 (blk_rows hw3 m11_2 rfl) (Ne.symm nm8_1_11_2.ne)) (by decide)) rfl) ?_
                  rintro v11_3 H11_3 ⟨a11_3, c11_3, hv11_3, hB11_3, hT11_3, hR11_3, hc11_3, hna11_3⟩
                  have m1_1 := m1_1.off hB11_3 (by first | exact nm1_1_8_1 | exact ⟨m1_1.ne m8_1 rfl⟩ | exact ⟨m1_1.ne m8_1 (by assumption)⟩ | exact ⟨Ne.symm (m8_1.ne m1_1 (by assumption))⟩)
                  have m2_1 := m2_1.off hB11_3 (by first | exact nm2_1_8_1 | exact ⟨m2_1.ne m8_1 rfl⟩ | exact ⟨m2_1.ne m8_1 (by assumption)⟩ | exact ⟨Ne.symm (m8_1.ne m2_1 (by assumption))⟩)
                  have hR4_2 := hR4_2.offT m8_1 hB11_3 (by first | rfl | assumption)
                  have m4_8 := m4_8.off hB11_3 (by first | exact nm4_8_8_1 | exact ⟨m4_8.ne m8_1 rfl⟩ | exact ⟨m4_8.ne m8_1 (by assumption)⟩ | exact ⟨Ne.symm (m8_1.ne m4_8 (by assumption))⟩)
                  have hR4_9 := hR4_9.offT m8_1 hB11_3 (by first | rfl | assumption)
                  have hR7_2 := hR7_2.offT m8_1 hB11_3 (by first | rfl | assumption)
                  have hQ := hQ.butO hB11_3
                  have hR9_1 := hR9_1.offT m8_1 hB11_3 (by first | rfl | assumption)
                  have hR9_5 := hR9_5.offT m8_1 hB11_3 (by first | rfl | assumption)
                  have hR9_10 := hR9_10.offT m8_1 hB11_3 (by first | rfl | assumption)
                  have m11_2 := m11_2.off hB11_3 (by first | exact nm8_1_11_2.symm | exact ⟨m11_2.ne m8_1 rfl⟩ | exact ⟨m11_2.ne m8_1 (by assumption)⟩ | exact ⟨Ne.symm (m8_1.ne m11_2 (by assumption))⟩)
                  have hX := hX.upd hB11_3 gb8_1
                  have m8_1 := hT11_3
                  have e11_3 : Pu.poX [[1, 3], [2097156, 6]] 4 [[0, 1, 6]] = [[1, 9], [2097156, 0]] := by decide
                  rw [e11_3] at m8_1 hR11_3 hc11_3
                  obtain rfl : v11_3 = .int .i64 0 := hv11_3.trans (congrArg (Value.int .i64) (by decide))
                  refine xl_pure rfl rfl rfl (pv_assign (v := .int _ _) rfl rfl) ?_
                  refine xl_nil ?_
                  refine xthen_normal ?_
                  refine xc_seq ?_
                  refine xc_region ?_
                  refine xl_pure rfl rfl rfl (pv_move (v := .slice _ _ _) rfl rfl) ?_
                  refine xl_pure rfl rfl rfl (pv_build_s (cs := [.int _ _, .int _ _]) rfl rfl rfl) ?_
                  refine xl_heavy rfl rfl rfl (hv_buildSlice (cs := [.int _ _, .int _ _]) rfl rfl rfl rfl rfl) ?_
                  rintro v12_2 H12_2 ⟨b12_2, rfl, hN12_2⟩
                  have gb12_2 := hX.fresh hN12_2
                  have nm1_1_12_2 := m1_1.apart hN12_2
                  have nm2_1_12_2 := m2_1.apart hN12_2
                  have nm4_8_12_2 := m4_8.apart hN12_2
                  have nm8_1_12_2 := m8_1.apart hN12_2
                  have nm11_2_12_2 := m11_2.apart hN12_2
                  have m1_1 := m1_1.ext hN12_2.ext
                  have m2_1 := m2_1.ext hN12_2.ext
                  have hR4_2 := hR4_2.ext hN12_2.ext
                  have m4_8 := m4_8.ext hN12_2.ext
                  have hR4_9 := hR4_9.ext hN12_2.ext
                  have hR7_2 := hR7_2.ext hN12_2.ext
                  have m8_1 := m8_1.ext hN12_2.ext
                  have hQ := hQ.ext hN12_2.ext
                  have hR9_1 := hR9_1.ext hN12_2.ext
                  have hR9_5 := hR9_5.ext hN12_2.ext
                  have hR9_10 := hR9_10.ext hN12_2.ext
                  have m11_2 := m11_2.ext hN12_2.ext
                  have hR11_3 := hR11_3.ext hN12_2.ext
                  have hX := hX.trans hN12_2.ext
                  have m12_2 := hN12_2.blk
                  refine xl_heavy rfl rfl rfl (hv_call (g := 14) rfl rfl (gSame (hdS [[1, 0, 2, 3, 1], [1048579, 0, 2, 3, 4]] 1 3 2) [((3 : Int), (4 : Int))] _ _ _ _ hQ.st (stks_blk (l := [((3 : Int), (4 : Int))]) m12_2) (by decide)) rfl) ?_
                  rintro v12_3 H12_3 ⟨r12_3, rfl, hb12_3, rfl⟩
                  obtain rfl : r12_3 = true := hb12_3.2 (by decide)
                  refine xl_pure rfl rfl rfl (pv_move (v := .bool _) rfl rfl) ?_
                  refine xl_pure rfl rfl rfl (pv_move (v := .int _ _) rfl rfl) ?_
                  refine xl_dec rfl rfl rfl (pv_eql rfl rfl rfl) (fun h12_6 => ?_) (fun h12_6 => ?_)
                  · skip
                    refine xl_pure rfl rfl rfl (pv_pick_t (v := .bool _) rfl rfl rfl) ?_
                    refine xl_pure rfl rfl rfl (pv_move (v := .bool _) rfl rfl) ?_
                    refine xl_pure rfl rfl rfl (pv_move (v := .pointer _) rfl rfl) ?_
                    refine xl_pure rfl rfl rfl (pv_build_s (cs := [.int _ _, .int _ _, .int _ _, .int _ _]) rfl rfl rfl) ?_
                    refine xl_heavy rfl rfl rfl (hv_call (g := 43) rfl rfl (c43 (l := [[1, 0, 2, 3, 1], [7, 0, 2, 3, 4]]) m1_1 hR7_2 hc7_2 hna7_2 (by decide) hgo7_2.srt ht7_2.len 7 0 2 3) rfl) ?_
                    rintro v12_11 H12_11 ⟨hv12_11, hE12_11⟩
                    have m1_1 := m1_1.ext hE12_11
                    have m2_1 := m2_1.ext hE12_11
                    have hR4_2 := hR4_2.ext hE12_11
                    have m4_8 := m4_8.ext hE12_11
                    have hR4_9 := hR4_9.ext hE12_11
                    have hR7_2 := hR7_2.ext hE12_11
                    have m8_1 := m8_1.ext hE12_11
                    have hQ := hQ.ext hE12_11
                    have hR9_1 := hR9_1.ext hE12_11
                    have hR9_5 := hR9_5.ext hE12_11
                    have hR9_10 := hR9_10.ext hE12_11
                    have m11_2 := m11_2.ext hE12_11
                    have hR11_3 := hR11_3.ext hE12_11
                    have m12_2 := m12_2.ext hE12_11
                    have hX := hX.trans hE12_11
                    obtain rfl : v12_11 = .int .i64 4 := hv12_11.trans (congrArg (Value.int .i64) (by decide))
                    refine xl_dec rfl rfl rfl (pv_eql rfl rfl rfl) (fun h12_12 => ?_) (fun h12_12 => ?_)
                    · skip
                      refine xl_pure rfl rfl rfl (pv_pick_t (v := .bool _) rfl rfl rfl) ?_
                      refine xl_pure rfl rfl rfl (pv_move (v := .bool _) rfl rfl) ?_
                      refine xl_pure rfl rfl rfl (pv_move (v := .int _ _) rfl rfl) ?_
                      refine xl_dec rfl rfl rfl (pv_eql rfl rfl rfl) (fun h12_16 => ?_) (fun h12_16 => ?_)
                      · skip
                        refine xl_pure rfl rfl rfl (pv_pick_t (v := .bool _) rfl rfl rfl) ?_
                        refine xl_pure rfl rfl rfl (pv_move (v := .bool _) rfl rfl) ?_
                        refine xl_pure rfl rfl rfl (pv_move (v := .pointer _) rfl rfl) ?_
                        refine xl_heavy rfl rfl rfl (hv_call (g := 33) rfl rfl (Pu.c33 (x := [[1, 9], [2097156, 0]]) m8_1 hR11_3 hc11_3 hna11_3 (by decide) (Pu.goo_of (by decide) (by decide) (by decide) (by decide)) 4) rfl) ?_
                        rintro v12_20 H12_20 ⟨hv12_20, hE12_20⟩
                        have m1_1 := m1_1.ext hE12_20
                        have m2_1 := m2_1.ext hE12_20
                        have hR4_2 := hR4_2.ext hE12_20
                        have m4_8 := m4_8.ext hE12_20
                        have hR4_9 := hR4_9.ext hE12_20
                        have hR7_2 := hR7_2.ext hE12_20
                        have m8_1 := m8_1.ext hE12_20
                        have hQ := hQ.ext hE12_20
                        have hR9_1 := hR9_1.ext hE12_20
                        have hR9_5 := hR9_5.ext hE12_20
                        have hR9_10 := hR9_10.ext hE12_20
                        have m11_2 := m11_2.ext hE12_20
                        have hR11_3 := hR11_3.ext hE12_20
                        have m12_2 := m12_2.ext hE12_20
                        have hX := hX.trans hE12_20
                        obtain rfl : v12_20 = .int .i64 0 := hv12_20.trans (congrArg (Value.int .i64) (by decide))
                        refine xl_dec rfl rfl rfl (pv_eql rfl rfl rfl) (fun h12_21 => ?_) (fun h12_21 => ?_)
                        · skip
                          refine xl_pure rfl rfl rfl (pv_pick_t (v := .bool _) rfl rfl rfl) ?_
                          refine xl_pure rfl rfl rfl (pv_assign (v := .bool _) rfl rfl) ?_
                          refine xl_nil ?_
                          refine xthen_normal ?_
                          refine xc_ret ?_
                          refine fin_ret (res1 (v := .bool _) rfl rfl) ?_
                          exact ⟨rfl, hX⟩
                        · exact absurd (by decide) h12_21
                      · exact absurd (by decide) h12_16
                    · exact absurd (by decide) h12_12
                  · exact absurd (by decide) h12_6
                · exact absurd (by decide) h9_16
              · exact absurd (by decide) h9_11
            · exact absurd (by decide) h9_6
          · exact absurd (by decide) h9_2
        · exact absurd (by decide) h4_18
      · exact absurd (by decide) h4_14
    · exact absurd (by decide) h4_10
  · exact absurd (by decide) h4_3

theorem c9o {O : Outer} {H : Heap} {w i : Int} (h : OKo w i) : FnC Try.prog 9 #[.int .i64 (owN w i)] O H (fun v H' => v = .tuple #[.int .i64 w, .int .i64 i, .bool true] ∧ Ext H H') := (c9 _).mono fun v H' ⟨hv, hE⟩ => by
  obtain ⟨h1, h2, h3⟩ := h
  rcases hv with ⟨ha, rfl⟩ | ⟨ha, rfl⟩ | ⟨ha, rfl⟩
  · unfold owN at ha ⊢; obtain rfl : w = 1 := by omega
    exact ⟨by congr 3; simp; omega, hE⟩
  · unfold owN at ha ⊢; obtain rfl : w = 2 := by omega
    exact ⟨by congr 3; simp; omega, hE⟩
  · exfalso; unfold owN at ha; omega
theorem c9z {O : Outer} {H : Heap} : FnC Try.prog 9 #[.int .i64 0] O H (fun v H' => v = .tuple #[.int .i64 0, .int .i64 0, .bool false] ∧ Ext H H') := (c9 _).mono fun v H' ⟨hv, hE⟩ => by
  rcases hv with ⟨ha, rfl⟩ | ⟨ha, rfl⟩ | ⟨ha, rfl⟩
  · exact absurd ha (by decide)
  · exact absurd ha (by decide)
  · exact ⟨rfl, hE⟩
theorem c7b {O : Outer} {H : Heap} {w i o : Int} (h : OKo w i) (e : owN w i = o) : FnC Try.prog 7 #[.int .i64 w, .int .i64 i] O H (fun v H' => v = .tuple #[.int .i64 o, .int .i64 0] ∧ H = H') := (c7 _ _).mono fun v H' ⟨hv, hE⟩ => by
  rcases hv with ⟨_, rfl⟩ | ⟨ha, _⟩
  · exact ⟨by rw [e], hE⟩
  · exact absurd h ha
theorem c7z {O : Outer} {H : Heap} : FnC Try.prog 7 #[.int .i64 0, .int .i64 0] O H (fun v H' => v = .tuple #[.int .i64 0, .int .i64 1] ∧ H = H') := (c7 _ _).mono fun v H' ⟨hv, hE⟩ => by
  rcases hv with ⟨ha, _⟩ | ⟨_, rfl⟩
  · exact absurd ha (by decide)
  · exact ⟨rfl, hE⟩
end Go.XG
