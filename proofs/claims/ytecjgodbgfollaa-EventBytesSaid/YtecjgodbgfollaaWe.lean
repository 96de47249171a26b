/-
  Walks of the seat's functions over the logic XG: each function, what it computes. Printed by a program out of wip/walks.py.
-/
import Derived.Test.YtecjgodbgfollaaI
import Derived.Test.YtecjgodbgfollaaLn
import Derived.Test.YtecjgodbgfollaaNa
import Derived.Test.YtecjgodbgfollaaNb
import Derived.Test.YtecjgodbgfollaaNc
import Derived.Test.YtecjgodbgfollaaNd
import Derived.Test.YtecjgodbgfollaaNf
import Derived.Test.YtecjgodbgfollaaNg
import Derived.Test.YtecjgodbgfollaaE
import Derived.Test.YtecjgodbgfollaaWa
import Derived.Test.YtecjgodbgfollaaWb
import Derived.Test.YtecjgodbgfollaaWc
import Derived.Test.YtecjgodbgfollaaWd
namespace Go.XG
open Go.Proofs Go.Pen
set_option maxRecDepth 4000
set_option maxHeartbeats 4000000
theorem c14A {O : Outer} {H : Heap} (l : List (List Int)) (ba off lc : Nat) (hsa : RowsAt H ba off 4 l) (hW : Wide 4 l) (hl0 : 0 < l.length) (hl : l.length ≤ 128) (a w i s : Int) :
    FnC Try.prog 14 #[.slice (some ⟨ba, off, none⟩) (List.length l) lc, .agg #[.int .i64 a, .int .i64 w, .int .i64 i, .int .i64 s]] O H (fun v H' => ∃ e x a' c', v = .tuple #[.slice a' (List.length x) c', .int .i64 e] ∧ addL l a w i s = (e, x) ∧ Rows H' a' 4 x ∧ x.length ≤ 128 ∧ (a' = none → c' = 0) ∧ (a' = (some ⟨ba, off, none⟩) ∧ x = l ∨ NewA H a') ∧ Ext H H') := by
  refine fn_enter (A := [.slice (some ⟨ba, off, none⟩) (List.length l) lc, .agg #[.int .i64 a, .int .i64 w, .int .i64 i, .int .i64 s]]) Try.func14 rfl rfl ?_
  have hX := Ext.refl H
  refine xc_seq ?_
  refine xc_region ?_
  refine xl_heavy rfl rfl rfl (hv_box rfl rfl) ?_
  rintro v0_0 H0_0 ⟨b0_0, rfl, hN0_0⟩
  have gb0_0 := hX.fresh hN0_0
  have hX := hX.trans hN0_0.ext
  have m0_0 := hN0_0.blk
  refine xl_pure rfl rfl rfl (pv_assign (v := .slice _ _ _) rfl rfl) ?_
  refine xl_pure rfl rfl rfl (pv_assign (v := .int _ _) rfl rfl) ?_
  refine xl_nil ?_
  refine xthen_normal ?_
  refine xc_seq ?_
  refine xc_seq ?_
  refine xp_start rfl (by repeat (first | with_reducible exact np_fin | with_reducible refine np_then ?_ | with_reducible refine np_block ?_)) (by kernel_rfl) ?_
  refine xp_light (i := 0) rfl (by kernel_rfl) (by kernel_rfl) rfl rfl rfl (lv_load (v := .agg _) rfl rfl (ld_blk_a m0_0 rfl rfl)) ?_
  refine xp_heavy (i := 1) (by kernel_rfl) ?_
  refine xph_val rfl rfl rfl rfl (hv_call (g := 28) rfl rfl (c28 a w i s) rfl) (pd (by kernel_rfl) pn) ?_
  rintro v1_1 H1_1 ⟨r1_1, rfl, hb1_1, hE1_1⟩
  have m0_0 := m0_0.ext hE1_1
  have hX := hX.trans hE1_1
  refine ⟨okn, ?_⟩
  cases r1_1
  · skip
    replace hb1_1 := mt hb1_1.2 (by decide)
    refine xp_pure (i := 2) rfl (by kernel_rfl) (by kernel_rfl) rfl rfl rfl (pv_not rfl rfl) ?_
    refine xp_pure (i := 3) rfl (by kernel_rfl) (by kernel_rfl) rfl rfl rfl (pv_move (v := .bool _) rfl rfl) ?_
    refine xp_skip (i := 4) rfl (by kernel_rfl) (by kernel_rfl) rfl rfl rfl ?_
    refine xp_skip (i := 5) rfl (by kernel_rfl) (by kernel_rfl) rfl rfl rfl ?_
    refine xp_skip (i := 6) rfl (by kernel_rfl) (by kernel_rfl) rfl rfl rfl ?_
    refine xp_skip (i := 7) rfl (by kernel_rfl) (by kernel_rfl) rfl rfl rfl ?_
    refine xp_skip (i := 8) rfl (by kernel_rfl) (by kernel_rfl) rfl rfl rfl ?_
    refine xp_skip (i := 9) rfl (by kernel_rfl) (by kernel_rfl) rfl rfl rfl ?_
    refine xp_skip (i := 10) rfl (by kernel_rfl) (by kernel_rfl) rfl rfl rfl ?_
    refine xp_skip (i := 11) rfl (by kernel_rfl) (by kernel_rfl) rfl rfl rfl ?_
    refine xp_skip (i := 12) rfl (by kernel_rfl) (by kernel_rfl) rfl rfl rfl ?_
    refine xp_skip (i := 13) rfl (by kernel_rfl) (by kernel_rfl) rfl rfl rfl ?_
    refine xp_skip (i := 14) rfl (by kernel_rfl) (by kernel_rfl) rfl rfl rfl ?_
    refine xp_skip (i := 15) rfl (by kernel_rfl) (by kernel_rfl) rfl rfl rfl ?_
    refine xp_skip (i := 16) rfl (by kernel_rfl) (by kernel_rfl) rfl rfl rfl ?_
    refine xp_skip (i := 17) rfl (by kernel_rfl) (by kernel_rfl) rfl rfl rfl ?_
    refine xp_skip (i := 18) rfl (by kernel_rfl) (by kernel_rfl) rfl rfl rfl ?_
    refine xp_pure (i := 19) rfl (by kernel_rfl) (by kernel_rfl) rfl rfl rfl (pv_pick_t (v := .bool _) rfl rfl rfl) ?_
    refine xp_done (by kernel_rfl) ?_
    refine xthen_normal ?_
    refine xc_cond_t rfl ?_
    refine xc_seq ?_
    refine xc_region ?_
    refine xl_pure rfl rfl rfl (pv_move (v := .slice _ _ _) rfl rfl) ?_
    refine xl_pure rfl rfl rfl (pv_assign (v := .slice _ _ _) rfl rfl) ?_
    refine xl_pure rfl rfl rfl (pv_assign (v := .int _ _) rfl rfl) ?_
    refine xl_nil ?_
    refine xthen_normal ?_
    refine xc_ret ?_
    refine xthen_ret ?_
    refine fin_ret (res2 (v := .slice _ _ _) (x := .int _ _) rfl rfl rfl) ?_
    exact ⟨1, l, (some ⟨ba, off, none⟩), lc, rfl, add_1 (by first | exact .inl (by assumption) | exact .inr (by rw [lastAt_pos (by omega)]; omega)), Rows.ext ⟨hW, .inr ⟨ba, off, rfl, hsa⟩⟩ hX, hl, (fun h => by first | rfl | (cases h)), .inl ⟨rfl, rfl⟩, hX⟩
  · skip
    replace hb1_1 := hb1_1.1 rfl
    refine xp_pure (i := 2) rfl (by kernel_rfl) (by kernel_rfl) rfl rfl rfl (pv_not rfl rfl) ?_
    refine xp_pure (i := 3) rfl (by kernel_rfl) (by kernel_rfl) rfl rfl rfl (pv_move (v := .bool _) rfl rfl) ?_
    refine xp_pure (i := 4) rfl (by kernel_rfl) (by kernel_rfl) rfl rfl rfl (pv_move (v := .slice _ _ _) rfl rfl) ?_
    refine xp_pure (i := 5) rfl (by kernel_rfl) (by kernel_rfl) rfl rfl rfl (pv_len_l rfl rfl) ?_
    refine xp_dec (i := 6) rfl (by kernel_rfl) (by kernel_rfl) rfl rfl rfl (pv_gtr rfl rfl rfl) (fun h1_6 => ?_) (fun h1_6 => ?_)
    · skip
      refine xp_pure (i := 7) rfl (by kernel_rfl) (by kernel_rfl) rfl rfl rfl (pv_move (v := .bool _) rfl rfl) ?_
      refine xp_pure (i := 8) rfl (by kernel_rfl) (by kernel_rfl) rfl rfl rfl (pv_fieldAddr rfl rfl) ?_
      refine xp_light (i := 9) rfl (by kernel_rfl) (by kernel_rfl) rfl rfl rfl (lv_load (v := .int _ _) rfl rfl (ld_blk m0_0 rfl)) ?_
      refine xp_pure (i := 10) rfl (by kernel_rfl) (by kernel_rfl) rfl rfl rfl (pv_move (v := .slice _ _ _) rfl rfl) ?_
      refine xp_pure (i := 11) rfl (by kernel_rfl) (by kernel_rfl) rfl rfl rfl (pv_move (v := .slice _ _ _) rfl rfl) ?_
      refine xp_pure (i := 12) rfl (by kernel_rfl) (by kernel_rfl) rfl rfl rfl (pv_len_l rfl rfl) ?_
      refine xp_pure (i := 13) rfl (by kernel_rfl) (by kernel_rfl) rfl rfl rfl (pv_sub rfl rfl rfl (fit_i64 (by omega))) ?_
      refine xp_pure (i := 14) rfl (by kernel_rfl) (by kernel_rfl) rfl rfl rfl (pv_indexAddr_l rfl rfl rfl (by omega)) ?_
      refine xp_pure (i := 15) rfl (by kernel_rfl) (by kernel_rfl) rfl rfl rfl (pv_fieldAddr rfl rfl) ?_
      refine xp_light (i := 16) rfl (by kernel_rfl) (by kernel_rfl) rfl rfl rfl (lv_load (v := .int _ _) rfl rfl (by rw [lastIx (by omega)]; exact ld_num (j := 0) (i := l.length - 1) (RowsAt.ext hsa hX) hW (by omega) (by omega))) ?_
      refine xp_dec (i := 17) rfl (by kernel_rfl) (by kernel_rfl) rfl rfl rfl (pv_lss rfl rfl rfl) (fun h1_17 => ?_) (fun h1_17 => ?_)
      · skip
        refine xp_pure (i := 18) rfl (by kernel_rfl) (by kernel_rfl) rfl rfl rfl (pv_pick_t (v := .bool _) rfl rfl rfl) ?_
        refine xp_pure (i := 19) rfl (by kernel_rfl) (by kernel_rfl) rfl rfl rfl (pv_pick_f (v := .bool _) rfl rfl rfl) ?_
        refine xp_done (by kernel_rfl) ?_
        refine xthen_normal ?_
        refine xc_cond_t rfl ?_
        refine xc_seq ?_
        refine xc_region ?_
        refine xl_pure rfl rfl rfl (pv_move (v := .slice _ _ _) rfl rfl) ?_
        refine xl_pure rfl rfl rfl (pv_assign (v := .slice _ _ _) rfl rfl) ?_
        refine xl_pure rfl rfl rfl (pv_assign (v := .int _ _) rfl rfl) ?_
        refine xl_nil ?_
        refine xthen_normal ?_
        refine xc_ret ?_
        refine xthen_ret ?_
        refine fin_ret (res2 (v := .slice _ _ _) (x := .int _ _) rfl rfl rfl) ?_
        exact ⟨1, l, (some ⟨ba, off, none⟩), lc, rfl, add_1 (by first | exact .inl (by assumption) | exact .inr (by rw [lastAt_pos (by omega)]; omega)), Rows.ext ⟨hW, .inr ⟨ba, off, rfl, hsa⟩⟩ hX, hl, (fun h => by first | rfl | (cases h)), .inl ⟨rfl, rfl⟩, hX⟩
      · skip
        refine xp_pure (i := 18) rfl (by kernel_rfl) (by kernel_rfl) rfl rfl rfl (pv_pick_t (v := .bool _) rfl rfl rfl) ?_
        refine xp_pure (i := 19) rfl (by kernel_rfl) (by kernel_rfl) rfl rfl rfl (pv_pick_f (v := .bool _) rfl rfl rfl) ?_
        refine xp_done (by kernel_rfl) ?_
        refine xthen_normal ?_
        refine xc_cond_f rfl ?_
        refine xc_skip ?_
        refine xthen_normal ?_
        refine xc_seq ?_
        refine xc_seq ?_
        refine xc_region ?_
        refine xl_pure rfl rfl rfl (pv_move (v := .slice _ _ _) rfl rfl) ?_
        refine xl_pure rfl rfl rfl (pv_fieldAddr rfl rfl) ?_
        refine xl_light rfl rfl rfl (lv_load (v := .int _ _) rfl rfl (ld_blk m0_0 rfl)) ?_
        refine xl_pure rfl rfl rfl (pv_fieldAddr rfl rfl) ?_
        refine xl_light rfl rfl rfl (lv_load (v := .int _ _) rfl rfl (ld_blk m0_0 rfl)) ?_
        refine xl_heavy rfl rfl rfl (hv_call (g := 15) rfl rfl (c15 l (some ⟨ba, off, none⟩) lc (Rows.ext ⟨hW, .inr ⟨ba, off, rfl, hsa⟩⟩ hX) (by first | omega | decide) w i) rfl) ?_
        rintro v3_5 H3_5 ⟨rfl, hE3_5⟩
        have m0_0 := m0_0.ext hE3_5
        have hX := hX.trans hE3_5
        cases hof : (ofI l w i).isSome
        · skip
          refine xl_pure rfl rfl rfl (pv_move (v := .tuple _) rfl rfl) ?_
          refine xl_pure rfl rfl rfl (pv_extract (v := .agg _) rfl rfl rfl) ?_
          refine xl_pure rfl rfl rfl (pv_extract (v := .bool _) rfl rfl rfl) ?_
          refine xl_heavy rfl rfl rfl (hv_alloc rfl rfl) ?_
          rintro v3_9 H3_9 ⟨b3_9, rfl, hN3_9⟩
          have gb3_9 := hX.fresh hN3_9
          have nm0_0_3_9 := m0_0.apart hN3_9
          have m0_0 := m0_0.ext hN3_9.ext
          have hX := hX.trans hN3_9.ext
          have m3_9 := hN3_9.blk
          refine xl_store rfl rfl (hv_storeA (vs := ints (ofR l w i)) rfl rfl rfl (m3_9) ((List.length_map _).trans (ofR_len hW)) (by rfl) (ints_one _)) ?_
          rintro v3_10 H3_10 ⟨hU3_10, hZ3_10⟩
          have m0_0 := m0_0.off hU3_10.but (nm0_0_3_9)
          have hX := hX.upd hU3_10.but gb3_9
          have m3_9 := hU3_10.blk
          refine xl_pure rfl rfl rfl (pv_assign (v := .bool _) rfl rfl) ?_
          refine xl_nil ?_
          refine xthen_normal ?_
          refine xc_seq ?_
          refine xc_region ?_
          refine xl_pure rfl rfl rfl (pv_move (v := .bool _) rfl rfl) ?_
          refine xl_nil ?_
          refine xthen_normal ?_
          refine xc_cond_f rfl ?_
          refine xc_skip ?_
          refine xthen_normal ?_
          refine xc_seq ?_
          refine xc_seq ?_
          refine xc_region ?_
          refine xl_pure rfl rfl rfl (pv_move (v := .slice _ _ _) rfl rfl) ?_
          refine xl_pure rfl rfl rfl (pv_len_l rfl rfl) ?_
          refine xl_dec rfl rfl rfl (pv_geq rfl rfl rfl) (fun h6_2 => ?_) (fun h6_2 => ?_)
          · skip
            refine xl_nil ?_
            refine xthen_normal ?_
            refine xc_cond_t rfl ?_
            refine xc_seq ?_
            refine xc_region ?_
            refine xl_pure rfl rfl rfl (pv_move (v := .slice _ _ _) rfl rfl) ?_
            refine xl_pure rfl rfl rfl (pv_assign (v := .slice _ _ _) rfl rfl) ?_
            refine xl_pure rfl rfl rfl (pv_assign (v := .int _ _) rfl rfl) ?_
            refine xl_nil ?_
            refine xthen_normal ?_
            refine xc_ret ?_
            refine xthen_ret ?_
            refine fin_ret (res2 (v := .slice _ _ _) (x := .int _ _) rfl rfl rfl) ?_
            exact ⟨4, l, (some ⟨ba, off, none⟩), lc, rfl, add_4 (fun h => h.elim (fun h => h hb1_1) (fun h => by rw [lastAt_pos (by omega)] at h; omega)) hof (by omega), Rows.ext ⟨hW, .inr ⟨ba, off, rfl, hsa⟩⟩ hX, hl, (fun h => by first | rfl | (cases h)), .inl ⟨rfl, rfl⟩, hX⟩
          · skip
            refine xl_nil ?_
            refine xthen_normal ?_
            refine xc_cond_f rfl ?_
            refine xc_skip ?_
            refine xthen_normal ?_
            refine xc_seq ?_
            refine xc_region ?_
            refine xl_pure rfl rfl rfl (pv_assign (v := .slice _ _ _) rfl rfl) ?_
            refine xl_nil ?_
            refine xthen_normal ?_
            refine xc_seq ?_
            refine xc_region ?_
            refine xl_pure rfl rfl rfl (pv_move (v := .slice _ _ _) rfl rfl) ?_
            refine xl_pure rfl rfl rfl (pv_move (v := .slice _ _ _) rfl rfl) ?_
            refine xl_heavy rfl rfl rfl (hv_append rfl rfl (Own.nil _ H.size 29 4) rfl ((rowsAt_row hW hsa).ext hX) (fr_len hW) (fr_one l) rfl (by decide) (by omega) (by omega) hX.size) ?_
            rintro v9_2 H9_2 ⟨hO9_2, hG9_2, -, hB9_2⟩
            have lt0 := m0_0.lt
            have m0_0 := m0_0.offA hG9_2 Own.apartNil
            have pm0_0_hO9_2 := OwnApart.grown Own.apartNil hB9_2 lt0
            have hX := Own.grown (Own.nil _ H.size 29 4) hX hG9_2 (Nat.le_refl _)
            rw [Nat.zero_add, List.nil_append] at hO9_2
            obtain ⟨a9_2, c9_2, rfl⟩ := hO9_2.val
            refine xl_pure rfl rfl rfl (pv_assign (v := .slice _ _ _) rfl rfl) ?_
            refine xl_nil ?_
            refine xthen_normal ?_
            refine xc_seq ?_
            refine xc_region ?_
            refine xl_pure rfl rfl rfl (pv_move (v := .slice _ _ _) rfl rfl) ?_
            refine xl_light rfl rfl rfl (lv_load (v := .agg _) rfl rfl (ld_blk_a m0_0 rfl rfl)) ?_
            refine xl_heavy rfl rfl rfl (hv_buildSlice (cs := [.int _ _, .int _ _, .int _ _, .int _ _]) rfl rfl rfl rfl rfl) ?_
            rintro v10_2 H10_2 ⟨b10_2, rfl, hN10_2⟩
            have gb10_2 := hX.fresh hN10_2
            have nm0_0_10_2 := m0_0.apart hN10_2
            have pm10_2_hO9_2 := hO9_2.apartN hN10_2
            have m0_0 := m0_0.ext hN10_2.ext
            have hO9_2 := hO9_2.ext hN10_2.ext
            have hX := hX.trans hN10_2.ext
            have m10_2 := hN10_2.blk
            refine xl_heavy rfl rfl rfl (hv_append rfl rfl hO9_2 rfl (m10_2.row) rfl (by simp [Value.oneCell']) rfl (by decide) (by omega) (by omega) hX.size) ?_
            rintro v10_3 H10_3 ⟨hO10_3, hG10_3, -, hB10_3⟩
            have lt_m0_0_10_3 := m0_0.lt
            have m0_0 := m0_0.offA hG10_3 (pm0_0_hO9_2)
            have hX := hO9_2.grown hX hG10_3 (Nat.le_refl _)
            have pm0_0_hO10_3 := OwnApart.grown pm0_0_hO9_2 hB10_3 (lt_m0_0_10_3)
            obtain ⟨a10_3, c10_3, rfl⟩ := hO10_3.val
            refine xl_pure rfl rfl rfl (pv_assign (v := .slice _ _ _) rfl rfl) ?_
            refine xl_nil ?_
            refine xthen_normal ?_
            refine xc_seq ?_
            refine xc_region ?_
            refine xl_pure rfl rfl rfl (pv_move (v := .slice _ _ _) rfl rfl) ?_
            refine xl_pure rfl rfl rfl (pv_assign (v := .slice _ _ _) rfl rfl) ?_
            refine xl_pure rfl rfl rfl (pv_assign (v := .int _ _) rfl rfl) ?_
            refine xl_nil ?_
            refine xthen_normal ?_
            refine xc_ret ?_
            refine fin_ret (res2 (v := .slice _ _ _) (x := .int _ _) rfl rfl rfl) ?_
            exact ⟨0, l ++ [[a, w, i, s]], a10_3, c10_3, by rw [List.length_append]; rfl, add_0 (fun h => h.elim (fun h => h hb1_1) (fun h => by rw [lastAt_pos (by omega)] at h; omega)) hof (by first | omega | decide), own_rows (wide_snoc hW rfl) (by simpa [fr_snoc, ints, fr] using hO10_3), by rw [List.length_append]; (try simp); (try omega), (fun h => by have := own_cap hO10_3 h; simpa using this), .inr (own_new hO10_3 (Nat.le_refl _)), hX⟩
        · skip
          refine xl_pure rfl rfl rfl (pv_move (v := .tuple _) rfl rfl) ?_
          refine xl_pure rfl rfl rfl (pv_extract (v := .agg _) rfl rfl rfl) ?_
          refine xl_pure rfl rfl rfl (pv_extract (v := .bool _) rfl rfl rfl) ?_
          refine xl_heavy rfl rfl rfl (hv_alloc rfl rfl) ?_
          rintro v3_9 H3_9 ⟨b3_9, rfl, hN3_9⟩
          have gb3_9 := hX.fresh hN3_9
          have nm0_0_3_9 := m0_0.apart hN3_9
          have m0_0 := m0_0.ext hN3_9.ext
          have hX := hX.trans hN3_9.ext
          have m3_9 := hN3_9.blk
          refine xl_store rfl rfl (hv_storeA (vs := ints (ofR l w i)) rfl rfl rfl (m3_9) ((List.length_map _).trans (ofR_len hW)) (by rfl) (ints_one _)) ?_
          rintro v3_10 H3_10 ⟨hU3_10, hZ3_10⟩
          have m0_0 := m0_0.off hU3_10.but (nm0_0_3_9)
          have hX := hX.upd hU3_10.but gb3_9
          have m3_9 := hU3_10.blk
          refine xl_pure rfl rfl rfl (pv_assign (v := .bool _) rfl rfl) ?_
          refine xl_nil ?_
          refine xthen_normal ?_
          refine xc_seq ?_
          refine xc_region ?_
          refine xl_pure rfl rfl rfl (pv_move (v := .bool _) rfl rfl) ?_
          refine xl_nil ?_
          refine xthen_normal ?_
          refine xc_cond_t rfl ?_
          refine xc_seq ?_
          refine xc_region ?_
          refine xl_pure rfl rfl rfl (pv_move (v := .slice _ _ _) rfl rfl) ?_
          refine xl_pure rfl rfl rfl (pv_assign (v := .slice _ _ _) rfl rfl) ?_
          refine xl_pure rfl rfl rfl (pv_assign (v := .int _ _) rfl rfl) ?_
          refine xl_nil ?_
          refine xthen_normal ?_
          refine xc_ret ?_
          refine xthen_ret ?_
          refine fin_ret (res2 (v := .slice _ _ _) (x := .int _ _) rfl rfl rfl) ?_
          exact ⟨9, l, (some ⟨ba, off, none⟩), lc, rfl, add_9 (fun h => h.elim (fun h => h hb1_1) (fun h => by rw [lastAt_pos (by omega)] at h; omega)) hof, Rows.ext ⟨hW, .inr ⟨ba, off, rfl, hsa⟩⟩ hX, hl, (fun h => by first | rfl | (cases h)), .inl ⟨rfl, rfl⟩, hX⟩
    · exact absurd (by omega) h1_6

theorem c14B {O : Outer} {H : Heap} (ad : Addr) (lc : Nat) (a w i s : Int) :
    FnC Try.prog 14 #[.slice (some ad) 0 lc, .agg #[.int .i64 a, .int .i64 w, .int .i64 i, .int .i64 s]] O H (fun v H' => ∃ e x a' c', v = .tuple #[.slice a' (List.length x) c', .int .i64 e] ∧ addL ([] : List (List Int)) a w i s = (e, x) ∧ Rows H' a' 4 x ∧ x.length ≤ 128 ∧ (a' = none → c' = 0) ∧ (a' = (some ad) ∧ x = ([] : List (List Int)) ∨ NewA H a') ∧ Ext H H') := by
  refine fn_enter (A := [.slice (some ad) 0 lc, .agg #[.int .i64 a, .int .i64 w, .int .i64 i, .int .i64 s]]) Try.func14 rfl rfl ?_
  have hX := Ext.refl H
  refine xc_seq ?_
  refine xc_region ?_
  refine xl_heavy rfl rfl rfl (hv_box rfl rfl) ?_
  rintro v0_0 H0_0 ⟨b0_0, rfl, hN0_0⟩
  have gb0_0 := hX.fresh hN0_0
  have hX := hX.trans hN0_0.ext
  have m0_0 := hN0_0.blk
  refine xl_pure rfl rfl rfl (pv_assign (v := .slice _ _ _) rfl rfl) ?_
  refine xl_pure rfl rfl rfl (pv_assign (v := .int _ _) rfl rfl) ?_
  refine xl_nil ?_
  refine xthen_normal ?_
  refine xc_seq ?_
  refine xc_seq ?_
  refine xp_start rfl (by repeat (first | with_reducible exact np_fin | with_reducible refine np_then ?_ | with_reducible refine np_block ?_)) (by kernel_rfl) ?_
  refine xp_light (i := 0) rfl (by kernel_rfl) (by kernel_rfl) rfl rfl rfl (lv_load (v := .agg _) rfl rfl (ld_blk_a m0_0 rfl rfl)) ?_
  refine xp_heavy (i := 1) (by kernel_rfl) ?_
  refine xph_val rfl rfl rfl rfl (hv_call (g := 28) rfl rfl (c28 a w i s) rfl) (pd (by kernel_rfl) pn) ?_
  rintro v1_1 H1_1 ⟨r1_1, rfl, hb1_1, hE1_1⟩
  have m0_0 := m0_0.ext hE1_1
  have hX := hX.trans hE1_1
  refine ⟨okn, ?_⟩
  cases r1_1
  · skip
    replace hb1_1 := mt hb1_1.2 (by decide)
    refine xp_pure (i := 2) rfl (by kernel_rfl) (by kernel_rfl) rfl rfl rfl (pv_not rfl rfl) ?_
    refine xp_pure (i := 3) rfl (by kernel_rfl) (by kernel_rfl) rfl rfl rfl (pv_move (v := .bool _) rfl rfl) ?_
    refine xp_skip (i := 4) rfl (by kernel_rfl) (by kernel_rfl) rfl rfl rfl ?_
    refine xp_skip (i := 5) rfl (by kernel_rfl) (by kernel_rfl) rfl rfl rfl ?_
    refine xp_skip (i := 6) rfl (by kernel_rfl) (by kernel_rfl) rfl rfl rfl ?_
    refine xp_skip (i := 7) rfl (by kernel_rfl) (by kernel_rfl) rfl rfl rfl ?_
    refine xp_skip (i := 8) rfl (by kernel_rfl) (by kernel_rfl) rfl rfl rfl ?_
    refine xp_skip (i := 9) rfl (by kernel_rfl) (by kernel_rfl) rfl rfl rfl ?_
    refine xp_skip (i := 10) rfl (by kernel_rfl) (by kernel_rfl) rfl rfl rfl ?_
    refine xp_skip (i := 11) rfl (by kernel_rfl) (by kernel_rfl) rfl rfl rfl ?_
    refine xp_skip (i := 12) rfl (by kernel_rfl) (by kernel_rfl) rfl rfl rfl ?_
    refine xp_skip (i := 13) rfl (by kernel_rfl) (by kernel_rfl) rfl rfl rfl ?_
    refine xp_skip (i := 14) rfl (by kernel_rfl) (by kernel_rfl) rfl rfl rfl ?_
    refine xp_skip (i := 15) rfl (by kernel_rfl) (by kernel_rfl) rfl rfl rfl ?_
    refine xp_skip (i := 16) rfl (by kernel_rfl) (by kernel_rfl) rfl rfl rfl ?_
    refine xp_skip (i := 17) rfl (by kernel_rfl) (by kernel_rfl) rfl rfl rfl ?_
    refine xp_skip (i := 18) rfl (by kernel_rfl) (by kernel_rfl) rfl rfl rfl ?_
    refine xp_pure (i := 19) rfl (by kernel_rfl) (by kernel_rfl) rfl rfl rfl (pv_pick_t (v := .bool _) rfl rfl rfl) ?_
    refine xp_done (by kernel_rfl) ?_
    refine xthen_normal ?_
    refine xc_cond_t rfl ?_
    refine xc_seq ?_
    refine xc_region ?_
    refine xl_pure rfl rfl rfl (pv_move (v := .slice _ _ _) rfl rfl) ?_
    refine xl_pure rfl rfl rfl (pv_assign (v := .slice _ _ _) rfl rfl) ?_
    refine xl_pure rfl rfl rfl (pv_assign (v := .int _ _) rfl rfl) ?_
    refine xl_nil ?_
    refine xthen_normal ?_
    refine xc_ret ?_
    refine xthen_ret ?_
    refine fin_ret (res2 (v := .slice _ _ _) (x := .int _ _) rfl rfl rfl) ?_
    exact ⟨1, ([] : List (List Int)), (some ad), lc, rfl, add_1 (by first | exact .inl (by assumption) | exact .inr (by rw [lastAt_nil]; unfold May at *; omega)), Rows.ext rows_nil hX, (by decide), (fun h => by first | rfl | (cases h)), .inl ⟨rfl, rfl⟩, hX⟩
  · skip
    replace hb1_1 := hb1_1.1 rfl
    refine xp_pure (i := 2) rfl (by kernel_rfl) (by kernel_rfl) rfl rfl rfl (pv_not rfl rfl) ?_
    refine xp_pure (i := 3) rfl (by kernel_rfl) (by kernel_rfl) rfl rfl rfl (pv_move (v := .bool _) rfl rfl) ?_
    refine xp_pure (i := 4) rfl (by kernel_rfl) (by kernel_rfl) rfl rfl rfl (pv_move (v := .slice _ _ _) rfl rfl) ?_
    refine xp_pure (i := 5) rfl (by kernel_rfl) (by kernel_rfl) rfl rfl rfl (pv_len_l rfl rfl) ?_
    refine xp_dec (i := 6) rfl (by kernel_rfl) (by kernel_rfl) rfl rfl rfl (pv_gtr rfl rfl rfl) (fun h1_6 => ?_) (fun h1_6 => ?_)
    · exact absurd h1_6 (by decide)
    · skip
      refine xp_pure (i := 7) rfl (by kernel_rfl) (by kernel_rfl) rfl rfl rfl (pv_move (v := .bool _) rfl rfl) ?_
      refine xp_skip (i := 8) rfl (by kernel_rfl) (by kernel_rfl) rfl rfl rfl ?_
      refine xp_skip (i := 9) rfl (by kernel_rfl) (by kernel_rfl) rfl rfl rfl ?_
      refine xp_skip (i := 10) rfl (by kernel_rfl) (by kernel_rfl) rfl rfl rfl ?_
      refine xp_skip (i := 11) rfl (by kernel_rfl) (by kernel_rfl) rfl rfl rfl ?_
      refine xp_skip (i := 12) rfl (by kernel_rfl) (by kernel_rfl) rfl rfl rfl ?_
      refine xp_skip (i := 13) rfl (by kernel_rfl) (by kernel_rfl) rfl rfl rfl ?_
      refine xp_skip (i := 14) rfl (by kernel_rfl) (by kernel_rfl) rfl rfl rfl ?_
      refine xp_skip (i := 15) rfl (by kernel_rfl) (by kernel_rfl) rfl rfl rfl ?_
      refine xp_skip (i := 16) rfl (by kernel_rfl) (by kernel_rfl) rfl rfl rfl ?_
      refine xp_skip (i := 17) rfl (by kernel_rfl) (by kernel_rfl) rfl rfl rfl ?_
      refine xp_pure (i := 18) rfl (by kernel_rfl) (by kernel_rfl) rfl rfl rfl (pv_pick_f (v := .bool _) rfl rfl rfl) ?_
      refine xp_pure (i := 19) rfl (by kernel_rfl) (by kernel_rfl) rfl rfl rfl (pv_pick_f (v := .bool _) rfl rfl rfl) ?_
      refine xp_done (by kernel_rfl) ?_
      refine xthen_normal ?_
      refine xc_cond_f rfl ?_
      refine xc_skip ?_
      refine xthen_normal ?_
      refine xc_seq ?_
      refine xc_seq ?_
      refine xc_region ?_
      refine xl_pure rfl rfl rfl (pv_move (v := .slice _ _ _) rfl rfl) ?_
      refine xl_pure rfl rfl rfl (pv_fieldAddr rfl rfl) ?_
      refine xl_light rfl rfl rfl (lv_load (v := .int _ _) rfl rfl (ld_blk m0_0 rfl)) ?_
      refine xl_pure rfl rfl rfl (pv_fieldAddr rfl rfl) ?_
      refine xl_light rfl rfl rfl (lv_load (v := .int _ _) rfl rfl (ld_blk m0_0 rfl)) ?_
      refine xl_heavy rfl rfl rfl (hv_call (g := 15) rfl rfl (c15 ([] : List (List Int)) (some ad) lc (Rows.ext rows_nil hX) (by first | omega | decide) w i) rfl) ?_
      rintro v3_5 H3_5 ⟨rfl, hE3_5⟩
      have m0_0 := m0_0.ext hE3_5
      have hX := hX.trans hE3_5
      cases hof : (ofI ([] : List (List Int)) w i).isSome
      · skip
        refine xl_pure rfl rfl rfl (pv_move (v := .tuple _) rfl rfl) ?_
        refine xl_pure rfl rfl rfl (pv_extract (v := .agg _) rfl rfl rfl) ?_
        refine xl_pure rfl rfl rfl (pv_extract (v := .bool _) rfl rfl rfl) ?_
        refine xl_heavy rfl rfl rfl (hv_alloc rfl rfl) ?_
        rintro v3_9 H3_9 ⟨b3_9, rfl, hN3_9⟩
        have gb3_9 := hX.fresh hN3_9
        have nm0_0_3_9 := m0_0.apart hN3_9
        have m0_0 := m0_0.ext hN3_9.ext
        have hX := hX.trans hN3_9.ext
        have m3_9 := hN3_9.blk
        refine xl_store rfl rfl (hv_storeA (vs := ints (ofR ([] : List (List Int)) w i)) rfl rfl rfl (m3_9) ((List.length_map _).trans (ofR_len wide_nil)) (by rfl) (ints_one _)) ?_
        rintro v3_10 H3_10 ⟨hU3_10, hZ3_10⟩
        have m0_0 := m0_0.off hU3_10.but (nm0_0_3_9)
        have hX := hX.upd hU3_10.but gb3_9
        have m3_9 := hU3_10.blk
        refine xl_pure rfl rfl rfl (pv_assign (v := .bool _) rfl rfl) ?_
        refine xl_nil ?_
        refine xthen_normal ?_
        refine xc_seq ?_
        refine xc_region ?_
        refine xl_pure rfl rfl rfl (pv_move (v := .bool _) rfl rfl) ?_
        refine xl_nil ?_
        refine xthen_normal ?_
        refine xc_cond_f rfl ?_
        refine xc_skip ?_
        refine xthen_normal ?_
        refine xc_seq ?_
        refine xc_seq ?_
        refine xc_region ?_
        refine xl_pure rfl rfl rfl (pv_move (v := .slice _ _ _) rfl rfl) ?_
        refine xl_pure rfl rfl rfl (pv_len_l rfl rfl) ?_
        refine xl_dec rfl rfl rfl (pv_geq rfl rfl rfl) (fun h6_2 => ?_) (fun h6_2 => ?_)
        · exact absurd h6_2 (by decide)
        · skip
          refine xl_nil ?_
          refine xthen_normal ?_
          refine xc_cond_f rfl ?_
          refine xc_skip ?_
          refine xthen_normal ?_
          refine xc_seq ?_
          refine xc_region ?_
          refine xl_pure rfl rfl rfl (pv_assign (v := .slice _ _ _) rfl rfl) ?_
          refine xl_nil ?_
          refine xthen_normal ?_
          refine xc_seq ?_
          refine xc_region ?_
          refine xl_pure rfl rfl rfl (pv_move (v := .slice _ _ _) rfl rfl) ?_
          refine xl_pure rfl rfl rfl (pv_move (v := .slice _ _ _) rfl rfl) ?_
          refine xl_heavy rfl rfl rfl (hv_append_e (size := 4) rfl rfl (Own.nil _ H.size 29 4) rfl rfl (by decide) (by omega) (by omega) hX.size) ?_
          rintro v9_2 H9_2 ⟨hO9_2, hG9_2, -, hB9_2⟩
          have lt0 := m0_0.lt
          have m0_0 := m0_0.offA hG9_2 Own.apartNil
          have pm0_0_hO9_2 := OwnApart.grown Own.apartNil hB9_2 lt0
          have hX := Own.grown (Own.nil _ H.size 29 4) hX hG9_2 (Nat.le_refl _)
          obtain ⟨a9_2, c9_2, rfl⟩ := hO9_2.val
          refine xl_pure rfl rfl rfl (pv_assign (v := .slice _ _ _) rfl rfl) ?_
          refine xl_nil ?_
          refine xthen_normal ?_
          refine xc_seq ?_
          refine xc_region ?_
          refine xl_pure rfl rfl rfl (pv_move (v := .slice _ _ _) rfl rfl) ?_
          refine xl_light rfl rfl rfl (lv_load (v := .agg _) rfl rfl (ld_blk_a m0_0 rfl rfl)) ?_
          refine xl_heavy rfl rfl rfl (hv_buildSlice (cs := [.int _ _, .int _ _, .int _ _, .int _ _]) rfl rfl rfl rfl rfl) ?_
          rintro v10_2 H10_2 ⟨b10_2, rfl, hN10_2⟩
          have gb10_2 := hX.fresh hN10_2
          have nm0_0_10_2 := m0_0.apart hN10_2
          have pm10_2_hO9_2 := hO9_2.apartN hN10_2
          have m0_0 := m0_0.ext hN10_2.ext
          have hO9_2 := hO9_2.ext hN10_2.ext
          have hX := hX.trans hN10_2.ext
          have m10_2 := hN10_2.blk
          refine xl_heavy rfl rfl rfl (hv_append rfl rfl hO9_2 rfl (m10_2.row) rfl (by simp [Value.oneCell']) rfl (by decide) (by omega) (by omega) hX.size) ?_
          rintro v10_3 H10_3 ⟨hO10_3, hG10_3, -, hB10_3⟩
          have lt_m0_0_10_3 := m0_0.lt
          have m0_0 := m0_0.offA hG10_3 (pm0_0_hO9_2)
          have hX := hO9_2.grown hX hG10_3 (Nat.le_refl _)
          have pm0_0_hO10_3 := OwnApart.grown pm0_0_hO9_2 hB10_3 (lt_m0_0_10_3)
          obtain ⟨a10_3, c10_3, rfl⟩ := hO10_3.val
          refine xl_pure rfl rfl rfl (pv_assign (v := .slice _ _ _) rfl rfl) ?_
          refine xl_nil ?_
          refine xthen_normal ?_
          refine xc_seq ?_
          refine xc_region ?_
          refine xl_pure rfl rfl rfl (pv_move (v := .slice _ _ _) rfl rfl) ?_
          refine xl_pure rfl rfl rfl (pv_assign (v := .slice _ _ _) rfl rfl) ?_
          refine xl_pure rfl rfl rfl (pv_assign (v := .int _ _) rfl rfl) ?_
          refine xl_nil ?_
          refine xthen_normal ?_
          refine xc_ret ?_
          refine fin_ret (res2 (v := .slice _ _ _) (x := .int _ _) rfl rfl rfl) ?_
          exact ⟨0, ([] : List (List Int)) ++ [[a, w, i, s]], a10_3, c10_3, by rw [List.length_append]; rfl, add_0 (fun h => h.elim (fun h => h hb1_1) (fun h => by rw [lastAt_nil] at h; unfold May at hb1_1; omega)) hof (by first | omega | decide), own_rows (wide_snoc wide_nil rfl) (by simpa [fr_snoc, ints, fr] using hO10_3), by rw [List.length_append]; (try simp); (try omega), (fun h => by have := own_cap hO10_3 h; simpa using this), .inr (own_new hO10_3 (Nat.le_refl _)), hX⟩
      · skip
        refine xl_pure rfl rfl rfl (pv_move (v := .tuple _) rfl rfl) ?_
        refine xl_pure rfl rfl rfl (pv_extract (v := .agg _) rfl rfl rfl) ?_
        refine xl_pure rfl rfl rfl (pv_extract (v := .bool _) rfl rfl rfl) ?_
        refine xl_heavy rfl rfl rfl (hv_alloc rfl rfl) ?_
        rintro v3_9 H3_9 ⟨b3_9, rfl, hN3_9⟩
        have gb3_9 := hX.fresh hN3_9
        have nm0_0_3_9 := m0_0.apart hN3_9
        have m0_0 := m0_0.ext hN3_9.ext
        have hX := hX.trans hN3_9.ext
        have m3_9 := hN3_9.blk
        refine xl_store rfl rfl (hv_storeA (vs := ints (ofR ([] : List (List Int)) w i)) rfl rfl rfl (m3_9) ((List.length_map _).trans (ofR_len wide_nil)) (by rfl) (ints_one _)) ?_
        rintro v3_10 H3_10 ⟨hU3_10, hZ3_10⟩
        have m0_0 := m0_0.off hU3_10.but (nm0_0_3_9)
        have hX := hX.upd hU3_10.but gb3_9
        have m3_9 := hU3_10.blk
        refine xl_pure rfl rfl rfl (pv_assign (v := .bool _) rfl rfl) ?_
        refine xl_nil ?_
        refine xthen_normal ?_
        refine xc_seq ?_
        refine xc_region ?_
        refine xl_pure rfl rfl rfl (pv_move (v := .bool _) rfl rfl) ?_
        refine xl_nil ?_
        refine xthen_normal ?_
        refine xc_cond_t rfl ?_
        refine xc_seq ?_
        refine xc_region ?_
        refine xl_pure rfl rfl rfl (pv_move (v := .slice _ _ _) rfl rfl) ?_
        refine xl_pure rfl rfl rfl (pv_assign (v := .slice _ _ _) rfl rfl) ?_
        refine xl_pure rfl rfl rfl (pv_assign (v := .int _ _) rfl rfl) ?_
        refine xl_nil ?_
        refine xthen_normal ?_
        refine xc_ret ?_
        refine xthen_ret ?_
        refine fin_ret (res2 (v := .slice _ _ _) (x := .int _ _) rfl rfl rfl) ?_
        exact ⟨9, ([] : List (List Int)), (some ad), lc, rfl, add_9 (fun h => h.elim (fun h => h hb1_1) (fun h => by rw [lastAt_nil] at h; unfold May at hb1_1; omega)) hof, Rows.ext rows_nil hX, (by decide), (fun h => by first | rfl | (cases h)), .inl ⟨rfl, rfl⟩, hX⟩

theorem c14C {O : Outer} {H : Heap}  (a w i s : Int) :
    FnC Try.prog 14 #[.slice none 0 0, .agg #[.int .i64 a, .int .i64 w, .int .i64 i, .int .i64 s]] O H (fun v H' => ∃ e x a' c', v = .tuple #[.slice a' (List.length x) c', .int .i64 e] ∧ addL ([] : List (List Int)) a w i s = (e, x) ∧ Rows H' a' 4 x ∧ x.length ≤ 128 ∧ (a' = none → c' = 0) ∧ (a' = none ∧ x = ([] : List (List Int)) ∨ NewA H a') ∧ Ext H H') := by
  refine fn_enter (A := [.slice none 0 0, .agg #[.int .i64 a, .int .i64 w, .int .i64 i, .int .i64 s]]) Try.func14 rfl rfl ?_
  have hX := Ext.refl H
  refine xc_seq ?_
  refine xc_region ?_
  refine xl_heavy rfl rfl rfl (hv_box rfl rfl) ?_
  rintro v0_0 H0_0 ⟨b0_0, rfl, hN0_0⟩
  have gb0_0 := hX.fresh hN0_0
  have hX := hX.trans hN0_0.ext
  have m0_0 := hN0_0.blk
  refine xl_pure rfl rfl rfl (pv_assign (v := .slice _ _ _) rfl rfl) ?_
  refine xl_pure rfl rfl rfl (pv_assign (v := .int _ _) rfl rfl) ?_
  refine xl_nil ?_
  refine xthen_normal ?_
  refine xc_seq ?_
  refine xc_seq ?_
  refine xp_start rfl (by repeat (first | with_reducible exact np_fin | with_reducible refine np_then ?_ | with_reducible refine np_block ?_)) (by kernel_rfl) ?_
  refine xp_light (i := 0) rfl (by kernel_rfl) (by kernel_rfl) rfl rfl rfl (lv_load (v := .agg _) rfl rfl (ld_blk_a m0_0 rfl rfl)) ?_
  refine xp_heavy (i := 1) (by kernel_rfl) ?_
  refine xph_val rfl rfl rfl rfl (hv_call (g := 28) rfl rfl (c28 a w i s) rfl) (pd (by kernel_rfl) pn) ?_
  rintro v1_1 H1_1 ⟨r1_1, rfl, hb1_1, hE1_1⟩
  have m0_0 := m0_0.ext hE1_1
  have hX := hX.trans hE1_1
  refine ⟨okn, ?_⟩
  cases r1_1
  · skip
    replace hb1_1 := mt hb1_1.2 (by decide)
    refine xp_pure (i := 2) rfl (by kernel_rfl) (by kernel_rfl) rfl rfl rfl (pv_not rfl rfl) ?_
    refine xp_pure (i := 3) rfl (by kernel_rfl) (by kernel_rfl) rfl rfl rfl (pv_move (v := .bool _) rfl rfl) ?_
    refine xp_skip (i := 4) rfl (by kernel_rfl) (by kernel_rfl) rfl rfl rfl ?_
    refine xp_skip (i := 5) rfl (by kernel_rfl) (by kernel_rfl) rfl rfl rfl ?_
    refine xp_skip (i := 6) rfl (by kernel_rfl) (by kernel_rfl) rfl rfl rfl ?_
    refine xp_skip (i := 7) rfl (by kernel_rfl) (by kernel_rfl) rfl rfl rfl ?_
    refine xp_skip (i := 8) rfl (by kernel_rfl) (by kernel_rfl) rfl rfl rfl ?_
    refine xp_skip (i := 9) rfl (by kernel_rfl) (by kernel_rfl) rfl rfl rfl ?_
    refine xp_skip (i := 10) rfl (by kernel_rfl) (by kernel_rfl) rfl rfl rfl ?_
    refine xp_skip (i := 11) rfl (by kernel_rfl) (by kernel_rfl) rfl rfl rfl ?_
    refine xp_skip (i := 12) rfl (by kernel_rfl) (by kernel_rfl) rfl rfl rfl ?_
    refine xp_skip (i := 13) rfl (by kernel_rfl) (by kernel_rfl) rfl rfl rfl ?_
    refine xp_skip (i := 14) rfl (by kernel_rfl) (by kernel_rfl) rfl rfl rfl ?_
    refine xp_skip (i := 15) rfl (by kernel_rfl) (by kernel_rfl) rfl rfl rfl ?_
    refine xp_skip (i := 16) rfl (by kernel_rfl) (by kernel_rfl) rfl rfl rfl ?_
    refine xp_skip (i := 17) rfl (by kernel_rfl) (by kernel_rfl) rfl rfl rfl ?_
    refine xp_skip (i := 18) rfl (by kernel_rfl) (by kernel_rfl) rfl rfl rfl ?_
    refine xp_pure (i := 19) rfl (by kernel_rfl) (by kernel_rfl) rfl rfl rfl (pv_pick_t (v := .bool _) rfl rfl rfl) ?_
    refine xp_done (by kernel_rfl) ?_
    refine xthen_normal ?_
    refine xc_cond_t rfl ?_
    refine xc_seq ?_
    refine xc_region ?_
    refine xl_pure rfl rfl rfl (pv_move (v := .slice _ _ _) rfl rfl) ?_
    refine xl_pure rfl rfl rfl (pv_assign (v := .slice _ _ _) rfl rfl) ?_
    refine xl_pure rfl rfl rfl (pv_assign (v := .int _ _) rfl rfl) ?_
    refine xl_nil ?_
    refine xthen_normal ?_
    refine xc_ret ?_
    refine xthen_ret ?_
    refine fin_ret (res2 (v := .slice _ _ _) (x := .int _ _) rfl rfl rfl) ?_
    exact ⟨1, ([] : List (List Int)), none, 0, rfl, add_1 (by first | exact .inl (by assumption) | exact .inr (by rw [lastAt_nil]; unfold May at *; omega)), Rows.ext rows_nil hX, (by decide), (fun h => by first | rfl | (cases h)), .inl ⟨rfl, rfl⟩, hX⟩
  · skip
    replace hb1_1 := hb1_1.1 rfl
    refine xp_pure (i := 2) rfl (by kernel_rfl) (by kernel_rfl) rfl rfl rfl (pv_not rfl rfl) ?_
    refine xp_pure (i := 3) rfl (by kernel_rfl) (by kernel_rfl) rfl rfl rfl (pv_move (v := .bool _) rfl rfl) ?_
    refine xp_pure (i := 4) rfl (by kernel_rfl) (by kernel_rfl) rfl rfl rfl (pv_move (v := .slice _ _ _) rfl rfl) ?_
    refine xp_pure (i := 5) rfl (by kernel_rfl) (by kernel_rfl) rfl rfl rfl (pv_len_l rfl rfl) ?_
    refine xp_dec (i := 6) rfl (by kernel_rfl) (by kernel_rfl) rfl rfl rfl (pv_gtr rfl rfl rfl) (fun h1_6 => ?_) (fun h1_6 => ?_)
    · exact absurd h1_6 (by decide)
    · skip
      refine xp_pure (i := 7) rfl (by kernel_rfl) (by kernel_rfl) rfl rfl rfl (pv_move (v := .bool _) rfl rfl) ?_
      refine xp_skip (i := 8) rfl (by kernel_rfl) (by kernel_rfl) rfl rfl rfl ?_
      refine xp_skip (i := 9) rfl (by kernel_rfl) (by kernel_rfl) rfl rfl rfl ?_
      refine xp_skip (i := 10) rfl (by kernel_rfl) (by kernel_rfl) rfl rfl rfl ?_
      refine xp_skip (i := 11) rfl (by kernel_rfl) (by kernel_rfl) rfl rfl rfl ?_
      refine xp_skip (i := 12) rfl (by kernel_rfl) (by kernel_rfl) rfl rfl rfl ?_
      refine xp_skip (i := 13) rfl (by kernel_rfl) (by kernel_rfl) rfl rfl rfl ?_
      refine xp_skip (i := 14) rfl (by kernel_rfl) (by kernel_rfl) rfl rfl rfl ?_
      refine xp_skip (i := 15) rfl (by kernel_rfl) (by kernel_rfl) rfl rfl rfl ?_
      refine xp_skip (i := 16) rfl (by kernel_rfl) (by kernel_rfl) rfl rfl rfl ?_
      refine xp_skip (i := 17) rfl (by kernel_rfl) (by kernel_rfl) rfl rfl rfl ?_
      refine xp_pure (i := 18) rfl (by kernel_rfl) (by kernel_rfl) rfl rfl rfl (pv_pick_f (v := .bool _) rfl rfl rfl) ?_
      refine xp_pure (i := 19) rfl (by kernel_rfl) (by kernel_rfl) rfl rfl rfl (pv_pick_f (v := .bool _) rfl rfl rfl) ?_
      refine xp_done (by kernel_rfl) ?_
      refine xthen_normal ?_
      refine xc_cond_f rfl ?_
      refine xc_skip ?_
      refine xthen_normal ?_
      refine xc_seq ?_
      refine xc_seq ?_
      refine xc_region ?_
      refine xl_pure rfl rfl rfl (pv_move (v := .slice _ _ _) rfl rfl) ?_
      refine xl_pure rfl rfl rfl (pv_fieldAddr rfl rfl) ?_
      refine xl_light rfl rfl rfl (lv_load (v := .int _ _) rfl rfl (ld_blk m0_0 rfl)) ?_
      refine xl_pure rfl rfl rfl (pv_fieldAddr rfl rfl) ?_
      refine xl_light rfl rfl rfl (lv_load (v := .int _ _) rfl rfl (ld_blk m0_0 rfl)) ?_
      refine xl_heavy rfl rfl rfl (hv_call (g := 15) rfl rfl (c15 ([] : List (List Int)) none 0 (Rows.ext rows_nil hX) (by first | omega | decide) w i) rfl) ?_
      rintro v3_5 H3_5 ⟨rfl, hE3_5⟩
      have m0_0 := m0_0.ext hE3_5
      have hX := hX.trans hE3_5
      cases hof : (ofI ([] : List (List Int)) w i).isSome
      · skip
        refine xl_pure rfl rfl rfl (pv_move (v := .tuple _) rfl rfl) ?_
        refine xl_pure rfl rfl rfl (pv_extract (v := .agg _) rfl rfl rfl) ?_
        refine xl_pure rfl rfl rfl (pv_extract (v := .bool _) rfl rfl rfl) ?_
        refine xl_heavy rfl rfl rfl (hv_alloc rfl rfl) ?_
        rintro v3_9 H3_9 ⟨b3_9, rfl, hN3_9⟩
        have gb3_9 := hX.fresh hN3_9
        have nm0_0_3_9 := m0_0.apart hN3_9
        have m0_0 := m0_0.ext hN3_9.ext
        have hX := hX.trans hN3_9.ext
        have m3_9 := hN3_9.blk
        refine xl_store rfl rfl (hv_storeA (vs := ints (ofR ([] : List (List Int)) w i)) rfl rfl rfl (m3_9) ((List.length_map _).trans (ofR_len wide_nil)) (by rfl) (ints_one _)) ?_
        rintro v3_10 H3_10 ⟨hU3_10, hZ3_10⟩
        have m0_0 := m0_0.off hU3_10.but (nm0_0_3_9)
        have hX := hX.upd hU3_10.but gb3_9
        have m3_9 := hU3_10.blk
        refine xl_pure rfl rfl rfl (pv_assign (v := .bool _) rfl rfl) ?_
        refine xl_nil ?_
        refine xthen_normal ?_
        refine xc_seq ?_
        refine xc_region ?_
        refine xl_pure rfl rfl rfl (pv_move (v := .bool _) rfl rfl) ?_
        refine xl_nil ?_
        refine xthen_normal ?_
        refine xc_cond_f rfl ?_
        refine xc_skip ?_
        refine xthen_normal ?_
        refine xc_seq ?_
        refine xc_seq ?_
        refine xc_region ?_
        refine xl_pure rfl rfl rfl (pv_move (v := .slice _ _ _) rfl rfl) ?_
        refine xl_pure rfl rfl rfl (pv_len_l rfl rfl) ?_
        refine xl_dec rfl rfl rfl (pv_geq rfl rfl rfl) (fun h6_2 => ?_) (fun h6_2 => ?_)
        · exact absurd h6_2 (by decide)
        · skip
          refine xl_nil ?_
          refine xthen_normal ?_
          refine xc_cond_f rfl ?_
          refine xc_skip ?_
          refine xthen_normal ?_
          refine xc_seq ?_
          refine xc_region ?_
          refine xl_pure rfl rfl rfl (pv_assign (v := .slice _ _ _) rfl rfl) ?_
          refine xl_nil ?_
          refine xthen_normal ?_
          refine xc_seq ?_
          refine xc_region ?_
          refine xl_pure rfl rfl rfl (pv_move (v := .slice _ _ _) rfl rfl) ?_
          refine xl_pure rfl rfl rfl (pv_move (v := .slice _ _ _) rfl rfl) ?_
          refine xl_heavy rfl rfl rfl (hv_append_n (v := .slice none 0 0) rfl rfl (Own.nil _ H.size 29 4) rfl) ?_
          rintro v9_2 H9_2 ⟨rfl, rfl⟩
          refine xl_pure rfl rfl rfl (pv_assign (v := .slice _ _ _) rfl rfl) ?_
          refine xl_nil ?_
          refine xthen_normal ?_
          refine xc_seq ?_
          refine xc_region ?_
          refine xl_pure rfl rfl rfl (pv_move (v := .slice _ _ _) rfl rfl) ?_
          refine xl_light rfl rfl rfl (lv_load (v := .agg _) rfl rfl (ld_blk_a m0_0 rfl rfl)) ?_
          refine xl_heavy rfl rfl rfl (hv_buildSlice (cs := [.int _ _, .int _ _, .int _ _, .int _ _]) rfl rfl rfl rfl rfl) ?_
          rintro v10_2 H10_2 ⟨b10_2, rfl, hN10_2⟩
          have gb10_2 := hX.fresh hN10_2
          have nm0_0_10_2 := m0_0.apart hN10_2
          have nm3_9_10_2 := m3_9.apart hN10_2
          have m0_0 := m0_0.ext hN10_2.ext
          have m3_9 := m3_9.ext hN10_2.ext
          have hX := hX.trans hN10_2.ext
          have m10_2 := hN10_2.blk
          refine xl_heavy rfl rfl rfl (hv_append rfl rfl (Own.nil _ H.size 29 4) rfl (m10_2.row) rfl (by simp [Value.oneCell']) rfl (by decide) (by omega) (by omega) hX.size) ?_
          rintro v10_3 H10_3 ⟨hO10_3, hG10_3, -, hB10_3⟩
          have lt_m0_0_10_3 := m0_0.lt
          have m0_0 := m0_0.offA hG10_3 (Own.apartNil)
          have lt_m3_9_10_3 := m3_9.lt
          have m3_9 := m3_9.offA hG10_3 (Own.apartNil)
          have hX := (Own.nil _ H.size 29 4).grown hX hG10_3 (Nat.le_refl _)
          have pm0_0_hO10_3 := OwnApart.grown Own.apartNil hB10_3 (lt_m0_0_10_3)
          have pm3_9_hO10_3 := OwnApart.grown Own.apartNil hB10_3 (lt_m3_9_10_3)
          obtain ⟨a10_3, c10_3, rfl⟩ := hO10_3.val
          refine xl_pure rfl rfl rfl (pv_assign (v := .slice _ _ _) rfl rfl) ?_
          refine xl_nil ?_
          refine xthen_normal ?_
          refine xc_seq ?_
          refine xc_region ?_
          refine xl_pure rfl rfl rfl (pv_move (v := .slice _ _ _) rfl rfl) ?_
          refine xl_pure rfl rfl rfl (pv_assign (v := .slice _ _ _) rfl rfl) ?_
          refine xl_pure rfl rfl rfl (pv_assign (v := .int _ _) rfl rfl) ?_
          refine xl_nil ?_
          refine xthen_normal ?_
          refine xc_ret ?_
          refine fin_ret (res2 (v := .slice _ _ _) (x := .int _ _) rfl rfl rfl) ?_
          exact ⟨0, ([] : List (List Int)) ++ [[a, w, i, s]], a10_3, c10_3, by rw [List.length_append]; rfl, add_0 (fun h => h.elim (fun h => h hb1_1) (fun h => by rw [lastAt_nil] at h; unfold May at hb1_1; omega)) hof (by first | omega | decide), own_rows (wide_snoc wide_nil rfl) (by simpa [fr_snoc, ints, fr] using hO10_3), by rw [List.length_append]; (try simp); (try omega), (fun h => by have := own_cap hO10_3 h; simpa using this), .inr (own_new hO10_3 (Nat.le_refl _)), hX⟩
      · skip
        refine xl_pure rfl rfl rfl (pv_move (v := .tuple _) rfl rfl) ?_
        refine xl_pure rfl rfl rfl (pv_extract (v := .agg _) rfl rfl rfl) ?_
        refine xl_pure rfl rfl rfl (pv_extract (v := .bool _) rfl rfl rfl) ?_
        refine xl_heavy rfl rfl rfl (hv_alloc rfl rfl) ?_
        rintro v3_9 H3_9 ⟨b3_9, rfl, hN3_9⟩
        have gb3_9 := hX.fresh hN3_9
        have nm0_0_3_9 := m0_0.apart hN3_9
        have m0_0 := m0_0.ext hN3_9.ext
        have hX := hX.trans hN3_9.ext
        have m3_9 := hN3_9.blk
        refine xl_store rfl rfl (hv_storeA (vs := ints (ofR ([] : List (List Int)) w i)) rfl rfl rfl (m3_9) ((List.length_map _).trans (ofR_len wide_nil)) (by rfl) (ints_one _)) ?_
        rintro v3_10 H3_10 ⟨hU3_10, hZ3_10⟩
        have m0_0 := m0_0.off hU3_10.but (nm0_0_3_9)
        have hX := hX.upd hU3_10.but gb3_9
        have m3_9 := hU3_10.blk
        refine xl_pure rfl rfl rfl (pv_assign (v := .bool _) rfl rfl) ?_
        refine xl_nil ?_
        refine xthen_normal ?_
        refine xc_seq ?_
        refine xc_region ?_
        refine xl_pure rfl rfl rfl (pv_move (v := .bool _) rfl rfl) ?_
        refine xl_nil ?_
        refine xthen_normal ?_
        refine xc_cond_t rfl ?_
        refine xc_seq ?_
        refine xc_region ?_
        refine xl_pure rfl rfl rfl (pv_move (v := .slice _ _ _) rfl rfl) ?_
        refine xl_pure rfl rfl rfl (pv_assign (v := .slice _ _ _) rfl rfl) ?_
        refine xl_pure rfl rfl rfl (pv_assign (v := .int _ _) rfl rfl) ?_
        refine xl_nil ?_
        refine xthen_normal ?_
        refine xc_ret ?_
        refine xthen_ret ?_
        refine fin_ret (res2 (v := .slice _ _ _) (x := .int _ _) rfl rfl rfl) ?_
        exact ⟨9, ([] : List (List Int)), none, 0, rfl, add_9 (fun h => h.elim (fun h => h hb1_1) (fun h => by rw [lastAt_nil] at h; unfold May at hb1_1; omega)) hof, Rows.ext rows_nil hX, (by decide), (fun h => by first | rfl | (cases h)), .inl ⟨rfl, rfl⟩, hX⟩

theorem c14 {O : Outer} {H : Heap} (l : List (List Int)) (la : Option Addr) (lc : Nat) (hR : Rows H la 4 l) (hl : l.length ≤ 128) (hz : la = none → lc = 0) (a w i s : Int) :
    FnC Try.prog 14 #[.slice la (List.length l) lc, .agg #[.int .i64 a, .int .i64 w, .int .i64 i, .int .i64 s]] O H (fun v H' => ∃ e x a' c', v = .tuple #[.slice a' (List.length x) c', .int .i64 e] ∧ addL l a w i s = (e, x) ∧ Rows H' a' 4 x ∧ x.length ≤ 128 ∧ (a' = none → c' = 0) ∧ (a' = la ∧ x = l ∨ NewA H a') ∧ Ext H H') := by
  cases la with
  | none =>
    obtain rfl := hz rfl
    obtain rfl : l = [] := List.length_eq_zero_iff.1 (by rcases hR.2 with h | ⟨b, o, h, _⟩; exact h; cases h)
    exact c14C a w i s
  | some ad =>
    rcases rows_split hR with rfl | ⟨ba, off, rfl, hsa⟩
    · exact c14B ad lc a w i s
    · by_cases h0 : l.length = 0
      · obtain rfl := List.length_eq_zero_iff.1 h0
        exact c14B _ lc a w i s
      · exact c14A l ba off lc hsa hR.1 (by omega) hl a w i s
end Go.XG
