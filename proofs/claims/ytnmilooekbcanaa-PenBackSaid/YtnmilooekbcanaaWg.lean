/-
  Walks of the seat's functions over the logic XG: each function, what it computes. Printed by a program out of wip/walks.py.
-/
import Derived.Test.YtnmilooekbcanaaI
import Derived.Test.YtnmilooekbcanaaP
import Derived.Test.YtnmilooekbcanaaL
import Derived.Test.YtnmilooekbcanaaWa
import Derived.Test.YtnmilooekbcanaaWb
import Derived.Test.YtnmilooekbcanaaWc
import Derived.Test.YtnmilooekbcanaaWd
import Derived.Test.YtnmilooekbcanaaWe
import Derived.Test.YtnmilooekbcanaaWf
namespace Go.XG
open Go.Proofs Go.Pen
theorem c16 {O : Outer} {H : Heap} {b i : Nat} {s : List UInt8} {bad : Bool} (hr : Blk H b [.string (bs s), .int .i64 (i : Nat), .bool bad] 31) (hi : i ≤ s.length) (hs : s.length < 4611686018427387904) (most : Int) :
    FnC Try.prog 16 #[.pointer (some ⟨b, 0, none⟩), .int .i64 most] O H (fun v H' => ∃ n i' bad', uintS most (s.drop i, bad) = (n, (s.drop i', bad')) ∧ i' ≤ s.length ∧ v = .int .i64 (n : Nat) ∧ n < 9223372036854775808 ∧ Upd H H' b [.string (bs s), .int .i64 (i' : Nat), .bool bad'] 31) := by
  refine fn_enter (A := [.pointer (some ⟨b, 0, none⟩), .int .i64 most]) Try.func16 rfl rfl ?_
  refine xc_seq ?_
  refine xc_region ?_
  refine xl_pure rfl rfl rfl (pv_assign (v := .int _ _) rfl rfl) ?_
  refine xl_nil ?_
  refine xthen_normal ?_
  refine xc_seq ?_
  refine xc_region ?_
  refine xl_pure rfl rfl rfl (pv_move (v := .pointer _) rfl rfl) ?_
  refine xl_heavy rfl rfl rfl (hv_call (g := 33) rfl rfl (c33 hr hi hs) rfl) ?_
  rintro v1_1 H1_1 ⟨n, ok, i1, bad1, hw, hbo, hi1, hn, rfl, hU1_1⟩
  have hr1 := hU1_1.blk
  refine xl_pure rfl rfl rfl (pv_assign (v := .int _ _) rfl rfl) ?_
  refine xl_nil ?_
  refine xthen_normal ?_
  refine xc_seq ?_
  refine xc_seq ?_
  refine xc_region ?_
  refine xl_pure rfl rfl rfl (pv_move (v := .int _ _) rfl rfl) ?_
  refine xl_dec rfl rfl rfl (pv_gtr rfl rfl rfl) (fun h2_1 => ?_) (fun h2_1 => ?_)
  · skip
    refine xl_pure rfl rfl rfl (pv_move (v := .bool _) rfl rfl) ?_
    refine xl_skip rfl rfl rfl ?_
    refine xl_skip rfl rfl rfl ?_
    refine xl_skip rfl rfl rfl ?_
    refine xl_skip rfl rfl rfl ?_
    refine xl_pure rfl rfl rfl (pv_pick_t (v := .bool _) rfl rfl rfl) ?_
    refine xl_pure rfl rfl rfl (pv_move (v := .bool _) rfl rfl) ?_
    refine xl_skip rfl rfl rfl ?_
    refine xl_skip rfl rfl rfl ?_
    refine xl_skip rfl rfl rfl ?_
    refine xl_skip rfl rfl rfl ?_
    refine xl_pure rfl rfl rfl (pv_pick_t (v := .bool _) rfl rfl rfl) ?_
    refine xl_nil ?_
    refine xthen_normal ?_
    refine xc_cond_t rfl ?_
    refine xc_seq ?_
    refine xc_region ?_
    refine xl_pure rfl rfl rfl (pv_move (v := .pointer _) rfl rfl) ?_
    refine xl_heavy rfl rfl rfl (hv_call (g := 34) rfl rfl (c34 hr1) rfl) ?_
    rintro v3_1 H3_1 ⟨rfl, hU3_1⟩
    refine xl_pure rfl rfl rfl (pv_conv rfl rfl (fit_i64 (by omega))) ?_
    refine xl_pure rfl rfl rfl (pv_assign (v := .int _ _) rfl rfl) ?_
    refine xl_nil ?_
    refine xthen_normal ?_
    refine xc_ret ?_
    refine xthen_ret ?_
    refine fin_ret (res1 (v := .int _ _) rfl rfl) ?_
    exact ⟨0, i1, true, uint_no hw (by rintro ⟨rfl, h1, h2⟩; first | omega | exact absurd hbo (by decide)), hi1, rfl, by decide, hU1_1.trans' hU3_1⟩
  · skip
    refine xl_pure rfl rfl rfl (pv_move (v := .bool _) rfl rfl) ?_
    refine xl_pure rfl rfl rfl (pv_move (v := .int _ _) rfl rfl) ?_
    refine xl_pure rfl rfl rfl (pv_conv rfl rfl (fit_i64 (by omega))) ?_
    refine xl_pure rfl rfl rfl (pv_move (v := .int _ _) rfl rfl) ?_
    refine xl_dec rfl rfl rfl (pv_gtr rfl rfl rfl) (fun h2_6 => ?_) (fun h2_6 => ?_)
    · skip
      refine xl_pure rfl rfl rfl (pv_pick_f (v := .bool _) rfl rfl rfl) ?_
      refine xl_pure rfl rfl rfl (pv_move (v := .bool _) rfl rfl) ?_
      refine xl_skip rfl rfl rfl ?_
      refine xl_skip rfl rfl rfl ?_
      refine xl_skip rfl rfl rfl ?_
      refine xl_skip rfl rfl rfl ?_
      refine xl_pure rfl rfl rfl (pv_pick_t (v := .bool _) rfl rfl rfl) ?_
      refine xl_nil ?_
      refine xthen_normal ?_
      refine xc_cond_t rfl ?_
      refine xc_seq ?_
      refine xc_region ?_
      refine xl_pure rfl rfl rfl (pv_move (v := .pointer _) rfl rfl) ?_
      refine xl_heavy rfl rfl rfl (hv_call (g := 34) rfl rfl (c34 hr1) rfl) ?_
      rintro v3_1 H3_1 ⟨rfl, hU3_1⟩
      refine xl_pure rfl rfl rfl (pv_conv rfl rfl (fit_i64 (by omega))) ?_
      refine xl_pure rfl rfl rfl (pv_assign (v := .int _ _) rfl rfl) ?_
      refine xl_nil ?_
      refine xthen_normal ?_
      refine xc_ret ?_
      refine xthen_ret ?_
      refine fin_ret (res1 (v := .int _ _) rfl rfl) ?_
      exact ⟨0, i1, true, uint_no hw (by rintro ⟨rfl, h1, h2⟩; first | omega | exact absurd hbo (by decide)), hi1, rfl, by decide, hU1_1.trans' hU3_1⟩
    · skip
      refine xl_pure rfl rfl rfl (pv_pick_f (v := .bool _) rfl rfl rfl) ?_
      refine xl_pure rfl rfl rfl (pv_move (v := .bool _) rfl rfl) ?_
      refine xl_pure rfl rfl rfl (pv_move (v := .pointer _) rfl rfl) ?_
      refine xl_pure rfl rfl rfl (pv_nilCheck_p rfl rfl) ?_
      refine xl_pure rfl rfl rfl (pv_fieldAddr rfl rfl) ?_
      refine xl_light rfl rfl rfl (lv_load (v := .bool _) rfl rfl (by first | exact ld_blk hr1 rfl)) ?_
      cases bad1
      · skip
        refine xl_pure rfl rfl rfl (pv_pick_f (v := .bool _) rfl rfl rfl) ?_
        refine xl_nil ?_
        refine xthen_normal ?_
        refine xc_cond_f rfl ?_
        refine xc_skip ?_
        refine xthen_normal ?_
        refine xc_seq ?_
        refine xc_region ?_
        refine xl_pure rfl rfl rfl (pv_move (v := .int _ _) rfl rfl) ?_
        refine xl_pure rfl rfl rfl (pv_conv rfl rfl (fit_i64 (by omega))) ?_
        refine xl_pure rfl rfl rfl (pv_assign (v := .int _ _) rfl rfl) ?_
        refine xl_nil ?_
        refine xthen_normal ?_
        refine xc_ret ?_
        refine fin_ret (res1 (v := .int _ _) rfl rfl) ?_
        exact ⟨n, i1, false, uint_ok (by rw [hw, show ok = true by cases ok with | true => rfl | false => exact absurd hbo (by decide)]) (by omega) (by omega), hi1, rfl, by omega, hU1_1⟩
      · skip
        refine xl_pure rfl rfl rfl (pv_pick_f (v := .bool _) rfl rfl rfl) ?_
        refine xl_nil ?_
        refine xthen_normal ?_
        refine xc_cond_t rfl ?_
        refine xc_seq ?_
        refine xc_region ?_
        refine xl_pure rfl rfl rfl (pv_move (v := .pointer _) rfl rfl) ?_
        refine xl_heavy rfl rfl rfl (hv_call (g := 34) rfl rfl (c34 hr1) rfl) ?_
        rintro v3_1 H3_1 ⟨rfl, hU3_1⟩
        refine xl_pure rfl rfl rfl (pv_conv rfl rfl (fit_i64 (by omega))) ?_
        refine xl_pure rfl rfl rfl (pv_assign (v := .int _ _) rfl rfl) ?_
        refine xl_nil ?_
        refine xthen_normal ?_
        refine xc_ret ?_
        refine xthen_ret ?_
        refine fin_ret (res1 (v := .int _ _) rfl rfl) ?_
        exact ⟨0, i1, true, uint_no hw (by rintro ⟨rfl, h1, h2⟩; first | omega | exact absurd hbo (by decide)), hi1, rfl, by decide, hU1_1.trans' hU3_1⟩

theorem c18 {O : Outer} {H : Heap} {b i : Nat} {s : List UInt8} {bad : Bool} (hr : Blk H b [.string (bs s), .int .i64 (i : Nat), .bool bad] 31) (hi : i ≤ s.length) (hs : s.length < 4611686018427387904) :
    FnC Try.prog 18 #[.pointer (some ⟨b, 0, none⟩)] O H (fun v H' => ∃ n i' bad', intS (s.drop i, bad) = (n, (s.drop i', bad')) ∧ i' ≤ s.length ∧ v = .int .i64 n ∧ Upd H H' b [.string (bs s), .int .i64 (i' : Nat), .bool bad'] 31) := by
  refine fn_enter (A := [.pointer (some ⟨b, 0, none⟩)]) Try.func18 rfl rfl ?_
  refine xc_seq ?_
  refine xc_region ?_
  refine xl_pure rfl rfl rfl (pv_assign (v := .int _ _) rfl rfl) ?_
  refine xl_nil ?_
  refine xthen_normal ?_
  refine xc_seq ?_
  refine xc_region ?_
  refine xl_pure rfl rfl rfl (pv_move (v := .pointer _) rfl rfl) ?_
  refine xl_heavy rfl rfl rfl (hv_call (g := 33) rfl rfl (c33 hr hi hs) rfl) ?_
  rintro v1_1 H1_1 ⟨n, ok, i1, bad1, hw, hbo, hi1, hn, rfl, hU1_1⟩
  have hr1 := hU1_1.blk
  refine xl_pure rfl rfl rfl (pv_assign (v := .int _ _) rfl rfl) ?_
  refine xl_nil ?_
  refine xthen_normal ?_
  refine xc_seq ?_
  refine xc_seq ?_
  refine xc_region ?_
  refine xl_pure rfl rfl rfl (pv_move (v := .int _ _) rfl rfl) ?_
  refine xl_pure rfl rfl rfl (pv_remv rfl rfl rfl (by decide) (tmod2 n)) ?_
  refine xl_dec rfl rfl rfl (pv_eql rfl rfl rfl) (fun h2_2 => ?_) (fun h2_2 => ?_)
  · skip
    refine xl_nil ?_
    refine xthen_normal ?_
    refine xc_cond_t rfl ?_
    refine xc_seq ?_
    refine xc_region ?_
    refine xl_pure rfl rfl rfl (pv_move (v := .int _ _) rfl rfl) ?_
    refine xl_pure rfl rfl rfl (pv_quov rfl rfl rfl (by decide) (quo2 n hn)) ?_
    refine xl_pure rfl rfl rfl (pv_conv rfl rfl (fit_i64 (by omega))) ?_
    refine xl_pure rfl rfl rfl (pv_assign (v := .int _ _) rfl rfl) ?_
    refine xl_nil ?_
    refine xthen_normal ?_
    refine xc_ret ?_
    refine xthen_ret ?_
    refine fin_ret (res1 (v := .int _ _) rfl rfl) ?_
    exact ⟨unzig n, i1, bad1, by simp only [intS, hw], hi1, iv (by unfold unzig; split <;> omega), hU1_1⟩
  · skip
    refine xl_nil ?_
    refine xthen_normal ?_
    refine xc_cond_f rfl ?_
    refine xc_skip ?_
    refine xthen_normal ?_
    refine xc_seq ?_
    refine xc_region ?_
    refine xl_pure rfl rfl rfl (pv_move (v := .int _ _) rfl rfl) ?_
    refine xl_pure rfl rfl rfl (pv_quov rfl rfl rfl (by decide) (quo2 n hn)) ?_
    refine xl_pure rfl rfl rfl (pv_conv rfl rfl (fit_i64 (by omega))) ?_
    refine xl_pure rfl rfl rfl (pv_neg rfl rfl (fit_i64 (by omega))) ?_
    refine xl_pure rfl rfl rfl (pv_sub rfl rfl rfl (fit_i64 (by omega))) ?_
    refine xl_pure rfl rfl rfl (pv_assign (v := .int _ _) rfl rfl) ?_
    refine xl_nil ?_
    refine xthen_normal ?_
    refine xc_ret ?_
    refine fin_ret (res1 (v := .int _ _) rfl rfl) ?_
    exact ⟨unzig n, i1, bad1, by simp only [intS, hw], hi1, iv (by unfold unzig; split <;> omega), hU1_1⟩

theorem c22 {O : Outer} {H : Heap} {b i : Nat} {s : List UInt8} {bad : Bool} (hr : Blk H b [.string (bs s), .int .i64 (i : Nat), .bool bad] 31) (hi : i ≤ s.length) (hs : s.length < 4611686018427387904) (most : Int) :
    FnC Try.prog 22 #[.pointer (some ⟨b, 0, none⟩), .int .i64 most] O H (fun v H' => ∃ n i' bad', timesS most (s.drop i, bad) = (n, (s.drop i', bad')) ∧ i' ≤ s.length ∧ v = .int .i64 (n : Nat) ∧ n < 9223372036854775808 ∧ Upd H H' b [.string (bs s), .int .i64 (i' : Nat), .bool bad'] 31) := by
  refine fn_enter (A := [.pointer (some ⟨b, 0, none⟩), .int .i64 most]) Try.func22 rfl rfl ?_
  refine xc_seq ?_
  refine xc_region ?_
  refine xl_pure rfl rfl rfl (pv_assign (v := .int _ _) rfl rfl) ?_
  refine xl_nil ?_
  refine xthen_normal ?_
  refine xc_seq ?_
  refine xc_region ?_
  refine xl_pure rfl rfl rfl (pv_move (v := .pointer _) rfl rfl) ?_
  refine xl_pure rfl rfl rfl (pv_move (v := .int _ _) rfl rfl) ?_
  refine xl_heavy rfl rfl rfl (hv_call (g := 16) rfl rfl (c16 hr hi hs most) rfl) ?_
  rintro v1_2 H1_2 ⟨n, i1, bad1, hw, hi1, rfl, hn, hU1_2⟩
  have hr1 := hU1_2.blk
  refine xl_pure rfl rfl rfl (pv_assign (v := .int _ _) rfl rfl) ?_
  refine xl_nil ?_
  refine xthen_normal ?_
  refine xc_seq ?_
  refine xc_seq ?_
  refine xp_start rfl (by repeat (first | with_reducible exact np_fin | with_reducible refine np_then ?_ | with_reducible refine np_block ?_)) (by kernel_rfl) ?_
  refine xp_pure (i := 0) rfl (by kernel_rfl) (by kernel_rfl) rfl rfl rfl (pv_move (v := .pointer _) rfl rfl) ?_
  refine xp_pure (i := 1) rfl (by kernel_rfl) (by kernel_rfl) rfl rfl rfl (pv_nilCheck_p rfl rfl) ?_
  refine xp_pure (i := 2) rfl (by kernel_rfl) (by kernel_rfl) rfl rfl rfl (pv_fieldAddr rfl rfl) ?_
  refine xp_light (i := 3) rfl (by kernel_rfl) (by kernel_rfl) rfl rfl rfl (lv_load (v := .bool _) rfl rfl (by first | exact ld_blk hr1 rfl)) ?_
  cases bad1
  · skip
    refine xp_pure (i := 4) rfl (by kernel_rfl) (by kernel_rfl) rfl rfl rfl (pv_move (v := .bool _) rfl rfl) ?_
    refine xp_pure (i := 5) rfl (by kernel_rfl) (by kernel_rfl) rfl rfl rfl (pv_move (v := .int _ _) rfl rfl) ?_
    refine xp_pure (i := 6) rfl (by kernel_rfl) (by kernel_rfl) rfl rfl rfl (pv_move (v := .pointer _) rfl rfl) ?_
    refine xp_pure (i := 7) rfl (by kernel_rfl) (by kernel_rfl) rfl rfl rfl (pv_nilCheck_p rfl rfl) ?_
    refine xp_pure (i := 8) rfl (by kernel_rfl) (by kernel_rfl) rfl rfl rfl (pv_fieldAddr rfl rfl) ?_
    refine xp_light (i := 9) rfl (by kernel_rfl) (by kernel_rfl) rfl rfl rfl (lv_load (v := .string (bs _)) rfl rfl (by first | exact ld_blk hr1 rfl)) ?_
    refine xp_pure (i := 10) rfl (by kernel_rfl) (by kernel_rfl) rfl rfl rfl (pv_len_s rfl rfl) ?_
    refine xp_pure (i := 11) rfl (by kernel_rfl) (by kernel_rfl) rfl rfl rfl (pv_move (v := .pointer _) rfl rfl) ?_
    refine xp_pure (i := 12) rfl (by kernel_rfl) (by kernel_rfl) rfl rfl rfl (pv_nilCheck_p rfl rfl) ?_
    refine xp_pure (i := 13) rfl (by kernel_rfl) (by kernel_rfl) rfl rfl rfl (pv_fieldAddr rfl rfl) ?_
    refine xp_light (i := 14) rfl (by kernel_rfl) (by kernel_rfl) rfl rfl rfl (lv_load (v := .int _ _) rfl rfl (by first | exact ld_blk hr1 rfl)) ?_
    refine xp_pure (i := 15) rfl (by kernel_rfl) (by kernel_rfl) rfl rfl rfl (pv_sub rfl rfl rfl (fit_i64 (by omega))) ?_
    refine xp_dec (i := 16) rfl (by kernel_rfl) (by kernel_rfl) rfl rfl rfl (pv_gtr rfl rfl rfl) (fun h2_16 => ?_) (fun h2_16 => ?_)
    · skip
      refine xp_pure (i := 17) rfl (by kernel_rfl) (by kernel_rfl) rfl rfl rfl (pv_pick_f (v := .bool _) rfl rfl rfl) ?_
      refine xp_done (by kernel_rfl) ?_
      refine xthen_normal ?_
      refine xc_cond_t rfl ?_
      refine xc_seq ?_
      refine xc_region ?_
      refine xl_pure rfl rfl rfl (pv_move (v := .pointer _) rfl rfl) ?_
      refine xl_heavy rfl rfl rfl (hv_call (g := 34) rfl rfl (c34 hr1) rfl) ?_
      rintro v3_1 H3_1 ⟨rfl, hU3_1⟩
      refine xl_pure rfl rfl rfl (pv_conv rfl rfl (fit_i64 (by omega))) ?_
      refine xl_pure rfl rfl rfl (pv_assign (v := .int _ _) rfl rfl) ?_
      refine xl_nil ?_
      refine xthen_normal ?_
      refine xc_ret ?_
      refine xthen_ret ?_
      refine fin_ret (res1 (v := .int _ _) rfl rfl) ?_
      exact ⟨0, i1, true, times_no hw (by simp <;> omega), hi1, rfl, by decide, hU1_2.trans' hU3_1⟩
    · skip
      refine xp_pure (i := 17) rfl (by kernel_rfl) (by kernel_rfl) rfl rfl rfl (pv_pick_f (v := .bool _) rfl rfl rfl) ?_
      refine xp_done (by kernel_rfl) ?_
      refine xthen_normal ?_
      refine xc_cond_f rfl ?_
      refine xc_skip ?_
      refine xthen_normal ?_
      refine xc_seq ?_
      refine xc_region ?_
      refine xl_pure rfl rfl rfl (pv_move (v := .int _ _) rfl rfl) ?_
      refine xl_pure rfl rfl rfl (pv_assign (v := .int _ _) rfl rfl) ?_
      refine xl_nil ?_
      refine xthen_normal ?_
      refine xc_ret ?_
      refine fin_ret (res1 (v := .int _ _) rfl rfl) ?_
      exact ⟨n, i1, false, times_ok hw (by simp; omega), hi1, rfl, hn, hU1_2⟩
  · skip
    refine xp_pure (i := 4) rfl (by kernel_rfl) (by kernel_rfl) rfl rfl rfl (pv_move (v := .bool _) rfl rfl) ?_
    refine xp_skip (i := 5) rfl (by kernel_rfl) (by kernel_rfl) rfl rfl rfl ?_
    refine xp_skip (i := 6) rfl (by kernel_rfl) (by kernel_rfl) rfl rfl rfl ?_
    refine xp_skip (i := 7) rfl (by kernel_rfl) (by kernel_rfl) rfl rfl rfl ?_
    refine xp_skip (i := 8) rfl (by kernel_rfl) (by kernel_rfl) rfl rfl rfl ?_
    refine xp_skip (i := 9) rfl (by kernel_rfl) (by kernel_rfl) rfl rfl rfl ?_
    refine xp_skip (i := 10) rfl (by kernel_rfl) (by kernel_rfl) rfl rfl rfl ?_
    refine xp_skip (i := 11) rfl (by kernel_rfl) (by kernel_rfl) rfl rfl rfl ?_
    refine xp_skip (i := 12) rfl (by kernel_rfl) (by kernel_rfl) rfl rfl rfl ?_
    refine xp_skip (i := 13) rfl (by kernel_rfl) (by kernel_rfl) rfl rfl rfl ?_
    refine xp_skip (i := 14) rfl (by kernel_rfl) (by kernel_rfl) rfl rfl rfl ?_
    refine xp_skip (i := 15) rfl (by kernel_rfl) (by kernel_rfl) rfl rfl rfl ?_
    refine xp_skip (i := 16) rfl (by kernel_rfl) (by kernel_rfl) rfl rfl rfl ?_
    refine xp_pure (i := 17) rfl (by kernel_rfl) (by kernel_rfl) rfl rfl rfl (pv_pick_t (v := .bool _) rfl rfl rfl) ?_
    refine xp_done (by kernel_rfl) ?_
    refine xthen_normal ?_
    refine xc_cond_t rfl ?_
    refine xc_seq ?_
    refine xc_region ?_
    refine xl_pure rfl rfl rfl (pv_move (v := .pointer _) rfl rfl) ?_
    refine xl_heavy rfl rfl rfl (hv_call (g := 34) rfl rfl (c34 hr1) rfl) ?_
    rintro v3_1 H3_1 ⟨rfl, hU3_1⟩
    refine xl_pure rfl rfl rfl (pv_conv rfl rfl (fit_i64 (by omega))) ?_
    refine xl_pure rfl rfl rfl (pv_assign (v := .int _ _) rfl rfl) ?_
    refine xl_nil ?_
    refine xthen_normal ?_
    refine xc_ret ?_
    refine xthen_ret ?_
    refine fin_ret (res1 (v := .int _ _) rfl rfl) ?_
    exact ⟨0, i1, true, times_no hw (by simp <;> omega), hi1, rfl, by decide, hU1_2.trans' hU3_1⟩

theorem c20 {O : Outer} {H : Heap} {b i : Nat} {s : List UInt8} {bad : Bool} (hr : Blk H b [.string (bs s), .int .i64 (i : Nat), .bool bad] 31) (hi : i ≤ s.length) (hs : s.length < 4611686018427387904) (most : Int) :
    FnC Try.prog 20 #[.pointer (some ⟨b, 0, none⟩), .int .i64 most] O H (fun v H' => ∃ t i' bad', textS most (s.drop i, bad) = (t, (s.drop i', bad')) ∧ i' ≤ s.length ∧ v = .string (bs t) ∧ Upd H H' b [.string (bs s), .int .i64 (i' : Nat), .bool bad'] 31) := by
  refine fn_enter (A := [.pointer (some ⟨b, 0, none⟩), .int .i64 most]) Try.func20 rfl rfl ?_
  refine xc_seq ?_
  refine xc_region ?_
  refine xl_pure rfl rfl rfl (pv_assign (v := .string (bs _)) rfl rfl) ?_
  refine xl_nil ?_
  refine xthen_normal ?_
  refine xc_seq ?_
  refine xc_region ?_
  refine xl_pure rfl rfl rfl (pv_move (v := .pointer _) rfl rfl) ?_
  refine xl_pure rfl rfl rfl (pv_move (v := .int _ _) rfl rfl) ?_
  refine xl_heavy rfl rfl rfl (hv_call (g := 16) rfl rfl (c16 hr hi hs most) rfl) ?_
  rintro v1_2 H1_2 ⟨n, i1, bad1, hw, hi1, rfl, hn, hU1_2⟩
  have hr1 := hU1_2.blk
  refine xl_pure rfl rfl rfl (pv_assign (v := .int _ _) rfl rfl) ?_
  refine xl_nil ?_
  refine xthen_normal ?_
  refine xc_seq ?_
  refine xc_seq ?_
  refine xp_start rfl (by repeat (first | with_reducible exact np_fin | with_reducible refine np_then ?_ | with_reducible refine np_block ?_)) (by kernel_rfl) ?_
  refine xp_pure (i := 0) rfl (by kernel_rfl) (by kernel_rfl) rfl rfl rfl (pv_move (v := .pointer _) rfl rfl) ?_
  refine xp_pure (i := 1) rfl (by kernel_rfl) (by kernel_rfl) rfl rfl rfl (pv_nilCheck_p rfl rfl) ?_
  refine xp_pure (i := 2) rfl (by kernel_rfl) (by kernel_rfl) rfl rfl rfl (pv_fieldAddr rfl rfl) ?_
  refine xp_light (i := 3) rfl (by kernel_rfl) (by kernel_rfl) rfl rfl rfl (lv_load (v := .bool _) rfl rfl (by first | exact ld_blk hr1 rfl)) ?_
  cases bad1
  · skip
    refine xp_pure (i := 4) rfl (by kernel_rfl) (by kernel_rfl) rfl rfl rfl (pv_move (v := .bool _) rfl rfl) ?_
    refine xp_pure (i := 5) rfl (by kernel_rfl) (by kernel_rfl) rfl rfl rfl (pv_move (v := .int _ _) rfl rfl) ?_
    refine xp_pure (i := 6) rfl (by kernel_rfl) (by kernel_rfl) rfl rfl rfl (pv_move (v := .pointer _) rfl rfl) ?_
    refine xp_pure (i := 7) rfl (by kernel_rfl) (by kernel_rfl) rfl rfl rfl (pv_nilCheck_p rfl rfl) ?_
    refine xp_pure (i := 8) rfl (by kernel_rfl) (by kernel_rfl) rfl rfl rfl (pv_fieldAddr rfl rfl) ?_
    refine xp_light (i := 9) rfl (by kernel_rfl) (by kernel_rfl) rfl rfl rfl (lv_load (v := .string (bs _)) rfl rfl (by first | exact ld_blk hr1 rfl)) ?_
    refine xp_pure (i := 10) rfl (by kernel_rfl) (by kernel_rfl) rfl rfl rfl (pv_len_s rfl rfl) ?_
    refine xp_pure (i := 11) rfl (by kernel_rfl) (by kernel_rfl) rfl rfl rfl (pv_move (v := .pointer _) rfl rfl) ?_
    refine xp_pure (i := 12) rfl (by kernel_rfl) (by kernel_rfl) rfl rfl rfl (pv_nilCheck_p rfl rfl) ?_
    refine xp_pure (i := 13) rfl (by kernel_rfl) (by kernel_rfl) rfl rfl rfl (pv_fieldAddr rfl rfl) ?_
    refine xp_light (i := 14) rfl (by kernel_rfl) (by kernel_rfl) rfl rfl rfl (lv_load (v := .int _ _) rfl rfl (by first | exact ld_blk hr1 rfl)) ?_
    refine xp_pure (i := 15) rfl (by kernel_rfl) (by kernel_rfl) rfl rfl rfl (pv_sub rfl rfl rfl (fit_i64 (by omega))) ?_
    refine xp_dec (i := 16) rfl (by kernel_rfl) (by kernel_rfl) rfl rfl rfl (pv_gtr rfl rfl rfl) (fun h2_16 => ?_) (fun h2_16 => ?_)
    · skip
      refine xp_pure (i := 17) rfl (by kernel_rfl) (by kernel_rfl) rfl rfl rfl (pv_pick_f (v := .bool _) rfl rfl rfl) ?_
      refine xp_done (by kernel_rfl) ?_
      refine xthen_normal ?_
      refine xc_cond_t rfl ?_
      refine xc_seq ?_
      refine xc_region ?_
      refine xl_pure rfl rfl rfl (pv_move (v := .pointer _) rfl rfl) ?_
      refine xl_heavy rfl rfl rfl (hv_call (g := 34) rfl rfl (c34 hr1) rfl) ?_
      rintro v3_1 H3_1 ⟨rfl, hU3_1⟩
      refine xl_nil ?_
      refine xthen_normal ?_
      refine xc_seq ?_
      refine xc_region ?_
      refine xl_pure rfl rfl rfl (pv_assign (v := .string (bs _)) rfl rfl) ?_
      refine xl_nil ?_
      refine xthen_normal ?_
      refine xc_ret ?_
      refine xthen_ret ?_
      refine fin_ret (res1 (v := .string (bs _)) rfl rfl) ?_
      exact ⟨[], i1, true, text_no hw (by simp <;> omega), hi1, rfl, hU1_2.trans' hU3_1⟩
    · skip
      refine xp_pure (i := 17) rfl (by kernel_rfl) (by kernel_rfl) rfl rfl rfl (pv_pick_f (v := .bool _) rfl rfl rfl) ?_
      refine xp_done (by kernel_rfl) ?_
      refine xthen_normal ?_
      refine xc_cond_f rfl ?_
      refine xc_skip ?_
      refine xthen_normal ?_
      refine xc_seq ?_
      refine xc_region ?_
      refine xl_pure rfl rfl rfl (pv_move (v := .pointer _) rfl rfl) ?_
      refine xl_pure rfl rfl rfl (pv_move (v := .pointer _) rfl rfl) ?_
      refine xl_pure rfl rfl rfl (pv_nilCheck_p rfl rfl) ?_
      refine xl_pure rfl rfl rfl (pv_fieldAddr rfl rfl) ?_
      refine xl_light rfl rfl rfl (lv_load (v := .int _ _) rfl rfl (by first | exact ld_blk hr1 rfl)) ?_
      refine xl_pure rfl rfl rfl (pv_move (v := .int _ _) rfl rfl) ?_
      refine xl_pure rfl rfl rfl (pv_add rfl rfl rfl (fit_i64 (by omega))) ?_
      refine xl_pure rfl rfl rfl (pv_nilCheck_p rfl rfl) ?_
      refine xl_pure rfl rfl rfl (pv_fieldAddr rfl rfl) ?_
      refine xl_store rfl rfl (hv_store (vs := [.int _ _]) rfl rfl rfl (by first | exact hr1) rfl (Nat.le_of_ble_eq_true rfl) rfl) ?_
      rintro v5_9 H5_9 ⟨hU5_9, hZ5_9⟩
      refine xl_nil ?_
      refine xthen_normal ?_
      refine xc_seq ?_
      refine xp_start rfl (by repeat (first | with_reducible exact np_fin | with_reducible refine np_then ?_ | with_reducible refine np_block ?_)) (by kernel_rfl) ?_
      refine xp_pure (i := 0) rfl (by kernel_rfl) (by kernel_rfl) rfl rfl rfl (pv_move (v := .pointer _) rfl rfl) ?_
      refine xp_pure (i := 1) rfl (by kernel_rfl) (by kernel_rfl) rfl rfl rfl (pv_nilCheck_p rfl rfl) ?_
      refine xp_pure (i := 2) rfl (by kernel_rfl) (by kernel_rfl) rfl rfl rfl (pv_fieldAddr rfl rfl) ?_
      refine xp_light (i := 3) rfl (by kernel_rfl) (by kernel_rfl) rfl rfl rfl (lv_load (v := .string (bs _)) rfl rfl (by first | exact ld_blk hU5_9.blk rfl)) ?_
      refine xp_pure (i := 4) rfl (by kernel_rfl) (by kernel_rfl) rfl rfl rfl (pv_move (v := .pointer _) rfl rfl) ?_
      refine xp_pure (i := 5) rfl (by kernel_rfl) (by kernel_rfl) rfl rfl rfl (pv_nilCheck_p rfl rfl) ?_
      refine xp_pure (i := 6) rfl (by kernel_rfl) (by kernel_rfl) rfl rfl rfl (pv_fieldAddr rfl rfl) ?_
      refine xp_light (i := 7) rfl (by kernel_rfl) (by kernel_rfl) rfl rfl rfl (lv_load (v := .int _ _) rfl rfl (by first | exact ld_blk hU5_9.blk rfl)) ?_
      refine xp_pure (i := 8) rfl (by kernel_rfl) (by kernel_rfl) rfl rfl rfl (pv_move (v := .int _ _) rfl rfl) ?_
      refine xp_pure (i := 9) rfl (by kernel_rfl) (by kernel_rfl) rfl rfl rfl (pv_sub rfl rfl rfl (fit_i64 (by omega))) ?_
      refine xp_pure (i := 10) rfl (by kernel_rfl) (by kernel_rfl) rfl rfl rfl (pv_move (v := .pointer _) rfl rfl) ?_
      refine xp_pure (i := 11) rfl (by kernel_rfl) (by kernel_rfl) rfl rfl rfl (pv_nilCheck_p rfl rfl) ?_
      refine xp_pure (i := 12) rfl (by kernel_rfl) (by kernel_rfl) rfl rfl rfl (pv_fieldAddr rfl rfl) ?_
      refine xp_light (i := 13) rfl (by kernel_rfl) (by kernel_rfl) rfl rfl rfl (lv_load (v := .int _ _) rfl rfl (by first | exact ld_blk hU5_9.blk rfl)) ?_
      refine xp_pure (i := 14) rfl (by kernel_rfl) (by kernel_rfl) rfl rfl rfl (pv_slice_s rfl rfl (.some rfl (by omega)) (.some rfl (by omega)) (by omega)) ?_
      refine xp_pure (i := 15) rfl (by kernel_rfl) (by kernel_rfl) rfl rfl rfl (pv_assign (v := .string (bs _)) rfl rfl) ?_
      refine xp_done (by kernel_rfl) ?_
      refine xthen_normal ?_
      refine xc_ret ?_
      refine fin_ret (res1 (v := .string (bs _)) rfl rfl) ?_
      refine ⟨_, i1 + n, false, text_ok hw hi1 (by omega), by omega, sv (tx20 _ _ _), hU1_2.trans' ?_⟩
      simpa [setRange] using hU5_9
  · skip
    refine xp_pure (i := 4) rfl (by kernel_rfl) (by kernel_rfl) rfl rfl rfl (pv_move (v := .bool _) rfl rfl) ?_
    refine xp_skip (i := 5) rfl (by kernel_rfl) (by kernel_rfl) rfl rfl rfl ?_
    refine xp_skip (i := 6) rfl (by kernel_rfl) (by kernel_rfl) rfl rfl rfl ?_
    refine xp_skip (i := 7) rfl (by kernel_rfl) (by kernel_rfl) rfl rfl rfl ?_
    refine xp_skip (i := 8) rfl (by kernel_rfl) (by kernel_rfl) rfl rfl rfl ?_
    refine xp_skip (i := 9) rfl (by kernel_rfl) (by kernel_rfl) rfl rfl rfl ?_
    refine xp_skip (i := 10) rfl (by kernel_rfl) (by kernel_rfl) rfl rfl rfl ?_
    refine xp_skip (i := 11) rfl (by kernel_rfl) (by kernel_rfl) rfl rfl rfl ?_
    refine xp_skip (i := 12) rfl (by kernel_rfl) (by kernel_rfl) rfl rfl rfl ?_
    refine xp_skip (i := 13) rfl (by kernel_rfl) (by kernel_rfl) rfl rfl rfl ?_
    refine xp_skip (i := 14) rfl (by kernel_rfl) (by kernel_rfl) rfl rfl rfl ?_
    refine xp_skip (i := 15) rfl (by kernel_rfl) (by kernel_rfl) rfl rfl rfl ?_
    refine xp_skip (i := 16) rfl (by kernel_rfl) (by kernel_rfl) rfl rfl rfl ?_
    refine xp_pure (i := 17) rfl (by kernel_rfl) (by kernel_rfl) rfl rfl rfl (pv_pick_t (v := .bool _) rfl rfl rfl) ?_
    refine xp_done (by kernel_rfl) ?_
    refine xthen_normal ?_
    refine xc_cond_t rfl ?_
    refine xc_seq ?_
    refine xc_region ?_
    refine xl_pure rfl rfl rfl (pv_move (v := .pointer _) rfl rfl) ?_
    refine xl_heavy rfl rfl rfl (hv_call (g := 34) rfl rfl (c34 hr1) rfl) ?_
    rintro v3_1 H3_1 ⟨rfl, hU3_1⟩
    refine xl_nil ?_
    refine xthen_normal ?_
    refine xc_seq ?_
    refine xc_region ?_
    refine xl_pure rfl rfl rfl (pv_assign (v := .string (bs _)) rfl rfl) ?_
    refine xl_nil ?_
    refine xthen_normal ?_
    refine xc_ret ?_
    refine xthen_ret ?_
    refine fin_ret (res1 (v := .string (bs _)) rfl rfl) ?_
    exact ⟨[], i1, true, text_no hw (by simp <;> omega), hi1, rfl, hU1_2.trans' hU3_1⟩

theorem c24 {O : Outer} {H : Heap} {b i : Nat} {s : List UInt8} {bad : Bool} (hr : Blk H b [.string (bs s), .int .i64 (i : Nat), .bool bad] 31) (hi : i ≤ s.length) (hs : s.length < 4611686018427387904) :
    FnC Try.prog 24 #[.pointer (some ⟨b, 0, none⟩)] O H (fun v H' => v = .int .i64 (leftS (s.drop i, bad) : Nat) ∧ H = H') := by
  refine fn_enter (A := [.pointer (some ⟨b, 0, none⟩)]) Try.func24 rfl rfl ?_
  refine xc_seq ?_
  refine xc_region ?_
  refine xl_pure rfl rfl rfl (pv_assign (v := .int _ _) rfl rfl) ?_
  refine xl_nil ?_
  refine xthen_normal ?_
  refine xc_seq ?_
  refine xc_seq ?_
  refine xc_region ?_
  refine xl_pure rfl rfl rfl (pv_move (v := .pointer _) rfl rfl) ?_
  refine xl_pure rfl rfl rfl (pv_nilCheck_p rfl rfl) ?_
  refine xl_pure rfl rfl rfl (pv_fieldAddr rfl rfl) ?_
  refine xl_light rfl rfl rfl (lv_load (v := .bool _) rfl rfl (by first | exact ld_blk hr rfl)) ?_
  cases bad
  · skip
    refine xl_nil ?_
    refine xthen_normal ?_
    refine xc_cond_f rfl ?_
    refine xc_skip ?_
    refine xthen_normal ?_
    refine xc_seq ?_
    refine xp_start rfl (by repeat (first | with_reducible exact np_fin | with_reducible refine np_then ?_ | with_reducible refine np_block ?_)) (by kernel_rfl) ?_
    refine xp_pure (i := 0) rfl (by kernel_rfl) (by kernel_rfl) rfl rfl rfl (pv_move (v := .pointer _) rfl rfl) ?_
    refine xp_pure (i := 1) rfl (by kernel_rfl) (by kernel_rfl) rfl rfl rfl (pv_nilCheck_p rfl rfl) ?_
    refine xp_pure (i := 2) rfl (by kernel_rfl) (by kernel_rfl) rfl rfl rfl (pv_fieldAddr rfl rfl) ?_
    refine xp_light (i := 3) rfl (by kernel_rfl) (by kernel_rfl) rfl rfl rfl (lv_load (v := .string (bs _)) rfl rfl (by first | exact ld_blk hr rfl)) ?_
    refine xp_pure (i := 4) rfl (by kernel_rfl) (by kernel_rfl) rfl rfl rfl (pv_len_s rfl rfl) ?_
    refine xp_pure (i := 5) rfl (by kernel_rfl) (by kernel_rfl) rfl rfl rfl (pv_move (v := .pointer _) rfl rfl) ?_
    refine xp_pure (i := 6) rfl (by kernel_rfl) (by kernel_rfl) rfl rfl rfl (pv_nilCheck_p rfl rfl) ?_
    refine xp_pure (i := 7) rfl (by kernel_rfl) (by kernel_rfl) rfl rfl rfl (pv_fieldAddr rfl rfl) ?_
    refine xp_light (i := 8) rfl (by kernel_rfl) (by kernel_rfl) rfl rfl rfl (lv_load (v := .int _ _) rfl rfl (by first | exact ld_blk hr rfl)) ?_
    refine xp_pure (i := 9) rfl (by kernel_rfl) (by kernel_rfl) rfl rfl rfl (pv_sub rfl rfl rfl (fit_i64 (by omega))) ?_
    refine xp_pure (i := 10) rfl (by kernel_rfl) (by kernel_rfl) rfl rfl rfl (pv_assign (v := .int _ _) rfl rfl) ?_
    refine xp_done (by kernel_rfl) ?_
    refine xthen_normal ?_
    refine xc_ret ?_
    refine fin_ret (res1 (v := .int _ _) rfl rfl) ?_
    exact ⟨iv (by simp [leftS] <;> omega), rfl⟩
  · skip
    refine xl_nil ?_
    refine xthen_normal ?_
    refine xc_cond_t rfl ?_
    refine xc_seq ?_
    refine xc_region ?_
    refine xl_pure rfl rfl rfl (pv_assign (v := .int _ _) rfl rfl) ?_
    refine xl_nil ?_
    refine xthen_normal ?_
    refine xc_ret ?_
    refine xthen_ret ?_
    refine fin_ret (res1 (v := .int _ _) rfl rfl) ?_
    exact ⟨iv (by simp [leftS] <;> omega), rfl⟩

theorem c27 {O : Outer} {H : Heap} {b i : Nat} {s : List UInt8} {bad : Bool} (hr : Blk H b [.string (bs s), .int .i64 (i : Nat), .bool bad] 31) (hi : i ≤ s.length) :
    FnC Try.prog 27 #[.pointer (some ⟨b, 0, none⟩)] O H (fun v H' => v = .bool (doneS (s.drop i, bad)) ∧ H = H') := by
  refine fn_enter (A := [.pointer (some ⟨b, 0, none⟩)]) Try.func27 rfl rfl ?_
  refine xc_seq ?_
  refine xc_region ?_
  refine xl_pure rfl rfl rfl (pv_assign (v := .bool _) rfl rfl) ?_
  refine xl_nil ?_
  refine xthen_normal ?_
  refine xc_seq ?_
  refine xp_start rfl (by repeat (first | with_reducible exact np_fin | with_reducible refine np_then ?_ | with_reducible refine np_block ?_)) (by kernel_rfl) ?_
  refine xp_pure (i := 0) rfl (by kernel_rfl) (by kernel_rfl) rfl rfl rfl (pv_move (v := .pointer _) rfl rfl) ?_
  refine xp_pure (i := 1) rfl (by kernel_rfl) (by kernel_rfl) rfl rfl rfl (pv_nilCheck_p rfl rfl) ?_
  refine xp_pure (i := 2) rfl (by kernel_rfl) (by kernel_rfl) rfl rfl rfl (pv_fieldAddr rfl rfl) ?_
  refine xp_light (i := 3) rfl (by kernel_rfl) (by kernel_rfl) rfl rfl rfl (lv_load (v := .bool _) rfl rfl (by first | exact ld_blk hr rfl)) ?_
  cases bad
  · skip
    refine xp_pure (i := 4) rfl (by kernel_rfl) (by kernel_rfl) rfl rfl rfl (pv_not rfl rfl) ?_
    refine xp_pure (i := 5) rfl (by kernel_rfl) (by kernel_rfl) rfl rfl rfl (pv_move (v := .bool _) rfl rfl) ?_
    refine xp_pure (i := 6) rfl (by kernel_rfl) (by kernel_rfl) rfl rfl rfl (pv_move (v := .pointer _) rfl rfl) ?_
    refine xp_pure (i := 7) rfl (by kernel_rfl) (by kernel_rfl) rfl rfl rfl (pv_nilCheck_p rfl rfl) ?_
    refine xp_pure (i := 8) rfl (by kernel_rfl) (by kernel_rfl) rfl rfl rfl (pv_fieldAddr rfl rfl) ?_
    refine xp_light (i := 9) rfl (by kernel_rfl) (by kernel_rfl) rfl rfl rfl (lv_load (v := .int _ _) rfl rfl (by first | exact ld_blk hr rfl)) ?_
    refine xp_pure (i := 10) rfl (by kernel_rfl) (by kernel_rfl) rfl rfl rfl (pv_move (v := .pointer _) rfl rfl) ?_
    refine xp_pure (i := 11) rfl (by kernel_rfl) (by kernel_rfl) rfl rfl rfl (pv_nilCheck_p rfl rfl) ?_
    refine xp_pure (i := 12) rfl (by kernel_rfl) (by kernel_rfl) rfl rfl rfl (pv_fieldAddr rfl rfl) ?_
    refine xp_light (i := 13) rfl (by kernel_rfl) (by kernel_rfl) rfl rfl rfl (lv_load (v := .string (bs _)) rfl rfl (by first | exact ld_blk hr rfl)) ?_
    refine xp_pure (i := 14) rfl (by kernel_rfl) (by kernel_rfl) rfl rfl rfl (pv_len_s rfl rfl) ?_
    refine xp_dec (i := 15) rfl (by kernel_rfl) (by kernel_rfl) rfl rfl rfl (pv_eql rfl rfl rfl) (fun h1_15 => ?_) (fun h1_15 => ?_)
    · skip
      refine xp_pure (i := 16) rfl (by kernel_rfl) (by kernel_rfl) rfl rfl rfl (pv_pick_t (v := .bool _) rfl rfl rfl) ?_
      refine xp_pure (i := 17) rfl (by kernel_rfl) (by kernel_rfl) rfl rfl rfl (pv_assign (v := .bool _) rfl rfl) ?_
      refine xp_done (by kernel_rfl) ?_
      refine xthen_normal ?_
      refine xc_ret ?_
      refine fin_ret (res1 (v := .bool _) rfl rfl) ?_
      exact ⟨by simp [doneS] <;> omega, rfl⟩
    · skip
      refine xp_pure (i := 16) rfl (by kernel_rfl) (by kernel_rfl) rfl rfl rfl (pv_pick_t (v := .bool _) rfl rfl rfl) ?_
      refine xp_pure (i := 17) rfl (by kernel_rfl) (by kernel_rfl) rfl rfl rfl (pv_assign (v := .bool _) rfl rfl) ?_
      refine xp_done (by kernel_rfl) ?_
      refine xthen_normal ?_
      refine xc_ret ?_
      refine fin_ret (res1 (v := .bool _) rfl rfl) ?_
      exact ⟨by simp [doneS] <;> omega, rfl⟩
  · skip
    refine xp_pure (i := 4) rfl (by kernel_rfl) (by kernel_rfl) rfl rfl rfl (pv_not rfl rfl) ?_
    refine xp_pure (i := 5) rfl (by kernel_rfl) (by kernel_rfl) rfl rfl rfl (pv_move (v := .bool _) rfl rfl) ?_
    refine xp_skip (i := 6) rfl (by kernel_rfl) (by kernel_rfl) rfl rfl rfl ?_
    refine xp_skip (i := 7) rfl (by kernel_rfl) (by kernel_rfl) rfl rfl rfl ?_
    refine xp_skip (i := 8) rfl (by kernel_rfl) (by kernel_rfl) rfl rfl rfl ?_
    refine xp_skip (i := 9) rfl (by kernel_rfl) (by kernel_rfl) rfl rfl rfl ?_
    refine xp_skip (i := 10) rfl (by kernel_rfl) (by kernel_rfl) rfl rfl rfl ?_
    refine xp_skip (i := 11) rfl (by kernel_rfl) (by kernel_rfl) rfl rfl rfl ?_
    refine xp_skip (i := 12) rfl (by kernel_rfl) (by kernel_rfl) rfl rfl rfl ?_
    refine xp_skip (i := 13) rfl (by kernel_rfl) (by kernel_rfl) rfl rfl rfl ?_
    refine xp_skip (i := 14) rfl (by kernel_rfl) (by kernel_rfl) rfl rfl rfl ?_
    refine xp_skip (i := 15) rfl (by kernel_rfl) (by kernel_rfl) rfl rfl rfl ?_
    refine xp_pure (i := 16) rfl (by kernel_rfl) (by kernel_rfl) rfl rfl rfl (pv_pick_f (v := .bool _) rfl rfl rfl) ?_
    refine xp_pure (i := 17) rfl (by kernel_rfl) (by kernel_rfl) rfl rfl rfl (pv_assign (v := .bool _) rfl rfl) ?_
    refine xp_done (by kernel_rfl) ?_
    refine xthen_normal ?_
    refine xc_ret ?_
    refine fin_ret (res1 (v := .bool _) rfl rfl) ?_
    exact ⟨by simp [doneS] <;> omega, rfl⟩
end Go.XG
