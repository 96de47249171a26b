/-
  Walks of the seat's functions over the logic XG: each function, what it computes. Printed by a program out of wip/walks.py.
-/
import Derived.Test.YtbcbgjikgilpcaaI
import Derived.Test.YtbcbgjikgilpcaaM
import Derived.Test.YtbcbgjikgilpcaaGc
import Derived.Test.YtbcbgjikgilpcaaWa
namespace Go.XG
open Go.Proofs
set_option maxRecDepth 4000
set_option maxHeartbeats 4000000
theorem rows_src {H : Heap} {a : Option Addr} {l : List (List Int)} (hs : Rows H a 2 l) : l.length = 0 ∨ ∃ yb yo, a = some ⟨yb, yo, none⟩ ∧ Row H yb yo (fr l) := by
  rcases hs.2 with h | ⟨g, o, h1, h2⟩
  · exact .inl h
  · exact .inr ⟨g, o, h1, rowsAt_row hs.1 h2⟩
theorem rows_none {H : Heap} {l : List (List Int)} (hs : Rows H none 2 l) : l = [] := by
  rcases hs.2 with h | ⟨g, o, h1, _⟩
  · exact List.length_eq_zero_iff.1 h
  · cases h1

theorem gCloneM {O : Outer} {H : Heap} {a : Option Addr} {c : Nat} {l : List (List Int)} (hs : Rows H a 2 l) (hl : l.length < 1000000) :
    FnC Try.prog 29 #[.slice a l.length c] O H (fun v H' => ∃ a' c', v = .slice a' l.length c' ∧ Own H' H.size 56 2 (.slice a' l.length c') (l.length) (fr l) ∧ Ext H H') := by
  refine fn_enter (A := [.slice a l.length c]) Try.func29 rfl rfl ?_
  have hX := Ext.refl H
  refine xc_seq ?_
  refine xc_region ?_
  refine xl_pure rfl rfl rfl (pv_assign (v := .slice _ _ _) rfl rfl) ?_
  refine xl_nil ?_
  refine xthen_normal ?_
  refine xc_seq ?_
  refine xc_seq ?_
  refine xc_region ?_
  refine xl_pure rfl rfl rfl (pv_move (v := .slice _ _ _) rfl rfl) ?_
  refine xl_pure rfl rfl rfl (pv_eql_sn rfl rfl rfl) ?_
  cases a
  · skip
    refine xl_nil ?_
    refine xthen_normal ?_
    refine xc_cond_t rfl ?_
    refine xc_seq ?_
    refine xc_region ?_
    refine xl_pure rfl rfl rfl (pv_assign (v := .slice _ _ _) rfl rfl) ?_
    refine xl_nil ?_
    refine xthen_normal ?_
    refine xc_ret ?_
    refine xthen_ret ?_
    refine fin_ret (res1 (v := .slice _ _ _) rfl rfl) ?_
    have h0 := rows_none hs; subst h0; exact ⟨none, 0, rfl, Own.nil _ _ _ _, hX⟩
  · skip
    refine xl_nil ?_
    refine xthen_normal ?_
    refine xc_cond_f rfl ?_
    refine xc_skip ?_
    refine xthen_normal ?_
    refine xc_seq ?_
    refine xc_region ?_
    refine xl_heavy rfl rfl rfl (hv_buildSlice (cs := []) rfl rfl rfl rfl rfl) ?_
    rintro v3_0 H3_0 ⟨b3_0, rfl, hN3_0⟩
    have gb3_0 := hX.fresh hN3_0
    have hX := hX.trans hN3_0.ext
    have m3_0 := hN3_0.blk
    refine xl_pure rfl rfl rfl (pv_move (v := .slice _ _ _) rfl rfl) ?_
    refine xl_heavy rfl rfl rfl (hv_append_cells (size := 2) (news := fr l) rfl rfl (own_empty m3_0 gb3_0.le) rfl (fr_len hs.1) (rows_src (hs.ext hX)) (fr_one l) rfl (by decide) (by omega) (by omega) hX.size) ?_
    rintro v3_2 H3_2 ⟨hO3_2, hG3_2⟩
    have hX := Own.grown (size := 2) (own_empty m3_0 gb3_0.le) hX hG3_2 (Nat.le_refl _)
    obtain ⟨a3_2, c3_2, rfl⟩ := hO3_2.val
    refine xl_pure rfl rfl rfl (pv_assign (v := .slice _ _ _) rfl rfl) ?_
    refine xl_nil ?_
    refine xthen_normal ?_
    refine xc_ret ?_
    refine fin_ret (res1 (v := .slice _ _ _) rfl rfl) ?_
    exact ⟨_, _, slv (Nat.zero_add _), by have h := hO3_2; rw [Nat.zero_add, List.nil_append] at h; exact h, hX⟩

theorem ins_fr {T D R : List Value} {l : List (List Int)} {i : Nat} {q0 q1 : Int} : fr (l.take i) ++ ([Value.int .i64 q0, .int .i64 q1] ++ (fr (l.drop i) ++ R)) = fr (l.take i ++ [[q0, q1]] ++ l.drop i) ++ R := by
  rw [fr_app, fr_app]; simp [fr, ints]
theorem ins_wide {l : List (List Int)} {i : Nat} {q0 q1 : Int} (hw : Wide 2 l) : Wide 2 (l.take i ++ [[q0, q1]] ++ l.drop i) := (hw.take.app (fun r hr => by rw [List.mem_singleton] at hr; rw [hr]; rfl)).app hw.drop

theorem gInsertIn {O : Outer} {H : Heap} {H0 : Heap} (hX0 : Ext H0 H) {gb c vb : Nat} {ex : List Value} {l : List (List Int)} (mg : Blk H gb (fr l ++ ex) 56) (hgb : H0.size ≤ gb) (hex : (fr l ++ ex).length = c * 2) (hcn : l.length ≤ c) (hw : Wide 2 l) (i : Nat) (hi : i < l.length) (hl : l.length ≤ 1000) {q0 q1 : Int} (mv : Blk H vb [.int .i64 q0, .int .i64 q1] 56) (hne : vb ≠ gb) :
    FnC Try.prog 42 #[.slice (some ⟨gb, 0, none⟩) l.length c, .int .i64 (i : Nat), .slice (some ⟨vb, 0, none⟩) 1 1] O H (fun v H' => ∃ a' c', v = .slice a' (l.length + 1) c' ∧ RowsT H' 56 2 a' (l.take i ++ [[q0, q1]] ++ l.drop i) ∧ Ext H0 H') := by
  have hfl := fr_len hw
  have hft : (fr (l.take i)).length = i * 2 := (by rw [fr_len hw.take, List.length_take, Nat.min_eq_left (Nat.le_of_lt hi)])
  have hfd : (fr (l.drop i)).length = (l.length - i) * 2 := (by rw [fr_len hw.drop, List.length_drop])
  have hsp : fr l = fr (l.take i) ++ fr (l.drop i) := by rw [← fr_app, List.take_append_drop]
  have hexl : l.length * 2 + ex.length = c * 2 := by rw [← hfl, ← List.length_append]; exact hex
  have hmn1 : Nat.min 1 (l.length + 1 - i) = 1 := by show min _ _ = _; omega
  have hmn3 : Nat.min 1 (i + (l.length + 1 - i) - i) = 1 := by show min _ _ = _; omega
  have hmn4 : Nat.min (l.length - i) (i + (l.length + 1 - i) - (i + 1)) = l.length - i := by show min _ _ = _; omega
  have hmn5 : Nat.min (l.length + 1 - i) (l.length + 1 - (i + 1)) = l.length - i := by show min _ _ = _; omega
  refine fn_enter (A := [.slice (some ⟨gb, 0, none⟩) l.length c, .int .i64 (i : Nat), .slice (some ⟨vb, 0, none⟩) 1 1]) Try.func42 rfl rfl ?_
  have hX := hX0
  refine xc_seq ?_
  refine xc_region ?_
  refine xl_pure rfl rfl rfl (pv_assign (v := .slice _ _ _) rfl rfl) ?_
  refine xl_nil ?_
  refine xthen_normal ?_
  refine xc_seq ?_
  refine xc_region ?_
  refine xl_pure rfl rfl rfl (pv_move (v := .slice _ _ _) rfl rfl) ?_
  refine xl_pure rfl rfl rfl (pv_move (v := .int _ _) rfl rfl) ?_
  refine xl_pure rfl rfl rfl (pv_slice_l rfl rfl (.none _) (.none _) (.some rfl (by omega)) (by omega) (by simp)) ?_
  refine xl_nil ?_
  refine xthen_normal ?_
  refine xc_seq ?_
  refine xc_region ?_
  refine xl_pure rfl rfl rfl (pv_move (v := .slice _ _ _) rfl rfl) ?_
  refine xl_pure rfl rfl rfl (pv_len_l rfl rfl) ?_
  refine xl_pure rfl rfl rfl (pv_assign (v := .int _ _) rfl rfl) ?_
  refine xl_nil ?_
  refine xthen_normal ?_
  refine xc_seq ?_
  refine xc_seq ?_
  refine xc_region ?_
  refine xl_pure rfl rfl rfl (pv_move (v := .int _ _) rfl rfl) ?_
  refine xl_dec rfl rfl rfl (pv_eql rfl rfl rfl) (fun h3_1 => ?_) (fun h3_1 => ?_)
  · exact absurd h3_1 (by decide)
  · skip
    refine xl_nil ?_
    refine xthen_normal ?_
    refine xc_cond_f rfl ?_
    refine xc_skip ?_
    refine xthen_normal ?_
    refine xc_seq ?_
    refine xc_region ?_
    refine xl_pure rfl rfl rfl (pv_move (v := .slice _ _ _) rfl rfl) ?_
    refine xl_pure rfl rfl rfl (pv_len_l rfl rfl) ?_
    refine xl_pure rfl rfl rfl (pv_assign (v := .int _ _) rfl rfl) ?_
    refine xl_nil ?_
    refine xthen_normal ?_
    refine xc_seq ?_
    refine xc_seq ?_
    refine xc_region ?_
    refine xl_pure rfl rfl rfl (pv_move (v := .int _ _) rfl rfl) ?_
    refine xl_pure rfl rfl rfl (pv_move (v := .int _ _) rfl rfl) ?_
    refine xl_dec rfl rfl rfl (pv_eql rfl rfl rfl) (fun h6_2 => ?_) (fun h6_2 => ?_)
    · exact absurd h6_2 (by omega)
    · skip
      refine xl_nil ?_
      refine xthen_normal ?_
      refine xc_cond_f rfl ?_
      refine xc_skip ?_
      refine xthen_normal ?_
      refine xc_seq ?_
      refine xc_seq ?_
      refine xc_region ?_
      refine xl_pure rfl rfl rfl (pv_move (v := .int _ _) rfl rfl) ?_
      refine xl_pure rfl rfl rfl (pv_move (v := .int _ _) rfl rfl) ?_
      refine xl_pure rfl rfl rfl (pv_add rfl rfl rfl (fit_i64 (by omega))) ?_
      refine xl_pure rfl rfl rfl (pv_move (v := .slice _ _ _) rfl rfl) ?_
      refine xl_pure rfl rfl rfl (pv_cap_l rfl rfl) ?_
      refine xl_dec rfl rfl rfl (pv_gtr rfl rfl rfl) (fun h8_5 => ?_) (fun h8_5 => ?_)
      · skip
        refine xl_nil ?_
        refine xthen_normal ?_
        refine xc_cond_t rfl ?_
        refine xc_seq ?_
        refine xc_region ?_
        refine xl_pure rfl rfl rfl (pv_move (v := .slice _ _ _) rfl rfl) ?_
        refine xl_pure rfl rfl rfl (pv_move (v := .int _ _) rfl rfl) ?_
        refine xl_pure rfl rfl rfl (pv_slice_l rfl rfl (.none _) (.some rfl (by omega)) (.none _) (by omega) (by simp)) ?_
        refine xl_pure rfl rfl rfl (pv_move (v := .int _ _) rfl rfl) ?_
        refine xl_pure rfl rfl rfl (pv_move (v := .int _ _) rfl rfl) ?_
        refine xl_pure rfl rfl rfl (pv_add rfl rfl rfl (fit_i64 (by omega))) ?_
        refine xl_pure rfl rfl rfl (pv_move (v := .int _ _) rfl rfl) ?_
        refine xl_pure rfl rfl rfl (pv_sub rfl rfl rfl (fit_i64 (by omega))) ?_
        refine xl_heavy rfl rfl rfl (hv_append_make (a := ⟨gb, 0, none⟩) (n := i) (c := c) (xs := fr (l.take i)) (m := l.length + 1 - i) rfl (congrArg (fun a => Value.slice a (i) (c)) cut_0) ⟨gb, 0, rfl, row_take mg i⟩ hft (iv (by omega)) (by omega) (by decide) rfl (by omega) (by omega) (by omega)) ?_
        rintro v9_8 H9_8 ⟨b9_8, c9_8, ex9_8, rfl, hc9_8, hl9_8, hm9_8, hN9_8⟩
        have lg := mg.lt
        have lv := mv.lt
        have gb9_8 := hX.fresh hN9_8
        have mg := mg.ext hN9_8.ext
        have mv := mv.ext hN9_8.ext
        have hX := hX.trans hN9_8.ext
        have m9_8 := hN9_8.blk
        have hil : i + (l.length + 1 - i) = l.length + 1 := by omega
        refine xl_pure rfl rfl rfl (pv_assign (v := .slice _ _ _) rfl rfl) ?_
        refine xl_nil ?_
        refine xthen_normal ?_
        refine xc_seq ?_
        refine xc_region ?_
        refine xl_pure rfl rfl rfl (pv_move (v := .slice _ _ _) rfl rfl) ?_
        refine xl_pure rfl rfl rfl (pv_move (v := .int _ _) rfl rfl) ?_
        refine xl_pure rfl rfl rfl (pv_slice_l rfl rfl (.none _) (.none _) (.some rfl (by omega)) (by omega) (by simp)) ?_
        refine xl_pure rfl rfl rfl (pv_move (v := .slice _ _ _) rfl rfl) ?_
        refine xl_heavy rfl rfl rfl (hv_copy (dl := i + (l.length + 1 - i) - i) (dc := c9_8 - i) (sl := 1) (sc := 1) (news := [.int .i64 q0, .int .i64 q1]) rfl (congrArg (fun a => Value.slice a (i + (l.length + 1 - i) - i) (c9_8 - i)) (cut_at (n := i) (by omega))) rfl m9_8 mv.row (by rw [hmn3]; rfl) (by rw [List.length_append, hft, hl9_8]; show 0 + i * 2 + 2 ≤ _; omega) (by simp [Value.oneCell'])) ?_
        rintro v10_4 H10_4 hU10_4
        have mg := mg.but hU10_4.but (fun h => by have := hN9_8.ge; omega)
        have mv := mv.but hU10_4.but (fun h => by have := hN9_8.ge; omega)
        have hX := hX.upd hU10_4.but gb9_8
        have m10_4 := hU10_4.blk
        refine xl_nil ?_
        refine xthen_normal ?_
        refine xc_seq ?_
        refine xp_start rfl (by repeat (first | with_reducible exact np_fin | with_reducible exact np_ret | with_reducible refine np_then ?_ | with_reducible refine np_block ?_)) (by kernel_rfl) ?_
        refine xp_pure (i := 0) rfl (by kernel_rfl) (by kernel_rfl) rfl rfl rfl (pv_move (v := .slice _ _ _) rfl rfl) ?_
        refine xp_pure (i := 1) rfl (by kernel_rfl) (by kernel_rfl) rfl rfl rfl (pv_move (v := .int _ _) rfl rfl) ?_
        refine xp_pure (i := 2) rfl (by kernel_rfl) (by kernel_rfl) rfl rfl rfl (pv_move (v := .int _ _) rfl rfl) ?_
        refine xp_pure (i := 3) rfl (by kernel_rfl) (by kernel_rfl) rfl rfl rfl (pv_add rfl rfl rfl (fit_i64 (by omega))) ?_
        refine xp_pure (i := 4) rfl (by kernel_rfl) (by kernel_rfl) rfl rfl rfl (pv_slice_l rfl rfl (.none _) (.none _) (.some rfl (by omega)) (by omega) (by simp)) ?_
        refine xp_pure (i := 5) rfl (by kernel_rfl) (by kernel_rfl) rfl rfl rfl (pv_move (v := .slice _ _ _) rfl rfl) ?_
        refine xp_pure (i := 6) rfl (by kernel_rfl) (by kernel_rfl) rfl rfl rfl (pv_move (v := .int _ _) rfl rfl) ?_
        refine xp_pure (i := 7) rfl (by kernel_rfl) (by kernel_rfl) rfl rfl rfl (pv_slice_l rfl rfl (.none _) (.none _) (.some rfl (by omega)) (by omega) (by simp)) ?_
        refine xp_heavy (i := 8) (by kernel_rfl) ?_
        refine xph_val rfl rfl rfl rfl (hv_copy (dl := i + (l.length + 1 - i) - (i + 1)) (dc := c9_8 - (i + 1)) (sl := l.length - i) (sc := c - i) (news := fr (l.drop i)) rfl (congrArg (fun a => Value.slice a (i + (l.length + 1 - i) - (i + 1)) (c9_8 - (i + 1))) (cut_at (n := i + 1) (by omega))) (congrArg (fun a => Value.slice a (l.length - i) (c - i)) (cut_at (n := i) (by omega))) m10_4 (row_drop mg hw (Nat.le_of_lt hi)) (by rw [hfd, hmn4]) (by rw [setRange_length, List.length_append, hft, hl9_8, hfd]; omega) (fr_one _)) pn ?_
        rintro v11_8 H11_8 hU11_8
        have hX := hX.upd hU11_8.but gb9_8
        have m11_8 := hU11_8.blk
        rw [ins_cells hft rfl (by rw [hfd, hl9_8]; omega), ins_fr (T := []) (D := [])] at m11_8
        refine ⟨okn, ?_⟩
        refine xp_done (by kernel_rfl) ?_
        refine xthen_normal ?_
        refine xc_seq ?_
        refine xc_region ?_
        refine xl_pure rfl rfl rfl (pv_move (v := .slice _ _ _) rfl rfl) ?_
        refine xl_pure rfl rfl rfl (pv_assign (v := .slice _ _ _) rfl rfl) ?_
        refine xl_nil ?_
        refine xthen_normal ?_
        refine xc_ret ?_
        refine xthen_ret ?_
        refine fin_ret (res1 (v := .slice _ _ _) rfl rfl) ?_
        exact ⟨_, _, slv hil, blk_rowsT m11_8 (ins_wide hw), hX⟩
      · skip
        refine xl_nil ?_
        refine xthen_normal ?_
        refine xc_cond_f rfl ?_
        refine xc_skip ?_
        refine xthen_normal ?_
        refine xc_seq ?_
        refine xc_region ?_
        refine xl_pure rfl rfl rfl (pv_move (v := .slice _ _ _) rfl rfl) ?_
        refine xl_pure rfl rfl rfl (pv_move (v := .int _ _) rfl rfl) ?_
        refine xl_pure rfl rfl rfl (pv_move (v := .int _ _) rfl rfl) ?_
        refine xl_pure rfl rfl rfl (pv_add rfl rfl rfl (fit_i64 (by omega))) ?_
        refine xl_pure rfl rfl rfl (pv_slice_l rfl rfl (.none _) (.some rfl (by omega)) (.none _) (by omega) (by simp)) ?_
        refine xl_pure rfl rfl rfl (pv_assign (v := .slice (some ⟨gb, 0, none⟩) (l.length + 1) c) rfl (congrArg (fun a => Value.slice a (l.length + 1) (c)) cut_0)) ?_
        refine xl_nil ?_
        refine xthen_normal ?_
        refine xc_seq ?_
        refine xc_seq ?_
        refine xc_region ?_
        refine xl_pure rfl rfl rfl (pv_move (v := .slice _ _ _) rfl rfl) ?_
        refine xl_pure rfl rfl rfl (pv_move (v := .slice _ _ _) rfl rfl) ?_
        refine xl_pure rfl rfl rfl (pv_move (v := .int _ _) rfl rfl) ?_
        refine xl_pure rfl rfl rfl (pv_move (v := .int _ _) rfl rfl) ?_
        refine xl_pure rfl rfl rfl (pv_add rfl rfl rfl (fit_i64 (by omega))) ?_
        refine xl_pure rfl rfl rfl (pv_slice_l rfl rfl (.none _) (.none _) (.some rfl (by omega)) (by omega) (by simp)) ?_
        refine xl_heavy rfl rfl rfl (hv_overlaps (tS := 52) (tR := 4) rfl rfl rfl (congrArg (fun a => Value.slice a (l.length + 1 - (i + 1)) (c - (i + 1))) (cut_at (n := i + 1) (by omega))) Try.func53 (by kernel_rfl) (by kernel_rfl) (by kernel_rfl) (by kernel_rfl) mv mg hne (fun h => by rw [h] at hex; simp at hex; omega)) ?_
        rintro v14_6 H14_6 ⟨rfl, rfl⟩
        refine xl_pure rfl rfl rfl (pv_not rfl rfl) ?_
        refine xl_nil ?_
        refine xthen_normal ?_
        refine xc_cond_t rfl ?_
        refine xc_seq ?_
        refine xp_start rfl (by repeat (first | with_reducible exact np_fin | with_reducible exact np_ret | with_reducible refine np_then ?_ | with_reducible refine np_block ?_)) (by kernel_rfl) ?_
        refine xp_pure (i := 0) rfl (by kernel_rfl) (by kernel_rfl) rfl rfl rfl (pv_move (v := .slice _ _ _) rfl rfl) ?_
        refine xp_pure (i := 1) rfl (by kernel_rfl) (by kernel_rfl) rfl rfl rfl (pv_move (v := .int _ _) rfl rfl) ?_
        refine xp_pure (i := 2) rfl (by kernel_rfl) (by kernel_rfl) rfl rfl rfl (pv_move (v := .int _ _) rfl rfl) ?_
        refine xp_pure (i := 3) rfl (by kernel_rfl) (by kernel_rfl) rfl rfl rfl (pv_add rfl rfl rfl (fit_i64 (by omega))) ?_
        refine xp_pure (i := 4) rfl (by kernel_rfl) (by kernel_rfl) rfl rfl rfl (pv_slice_l rfl rfl (.none _) (.none _) (.some rfl (by omega)) (by omega) (by simp)) ?_
        refine xp_pure (i := 5) rfl (by kernel_rfl) (by kernel_rfl) rfl rfl rfl (pv_move (v := .slice _ _ _) rfl rfl) ?_
        refine xp_pure (i := 6) rfl (by kernel_rfl) (by kernel_rfl) rfl rfl rfl (pv_move (v := .int _ _) rfl rfl) ?_
        refine xp_pure (i := 7) rfl (by kernel_rfl) (by kernel_rfl) rfl rfl rfl (pv_slice_l rfl rfl (.none _) (.none _) (.some rfl (by omega)) (by omega) (by simp)) ?_
        refine xp_heavy (i := 8) (by kernel_rfl) ?_
        refine xph_val rfl rfl rfl rfl (hv_copy (dl := l.length + 1 - (i + 1)) (dc := c - (i + 1)) (sl := l.length + 1 - i) (sc := c - i) (news := fr (l.drop i)) rfl (congrArg (fun a => Value.slice a (l.length + 1 - (i + 1)) (c - (i + 1))) (cut_at (n := i + 1) (by omega))) (congrArg (fun a => Value.slice a (l.length + 1 - i) (c - i)) (cut_at (n := i) (by omega))) mg (row_drop mg hw (Nat.le_of_lt hi)) (by rw [hfd, hmn5]) (by rw [hfd, hex]; omega) (fr_one _)) pn ?_
        rintro v15_8 H15_8 hU15_8
        have mv := mv.but hU15_8.but hne
        have hX := hX.upd hU15_8.but ⟨hgb⟩
        have m15_8 := hU15_8.blk
        refine ⟨okn, ?_⟩
        refine xp_done (by kernel_rfl) ?_
        refine xthen_normal ?_
        refine xc_seq ?_
        refine xc_region ?_
        refine xl_pure rfl rfl rfl (pv_move (v := .slice _ _ _) rfl rfl) ?_
        refine xl_pure rfl rfl rfl (pv_move (v := .int _ _) rfl rfl) ?_
        refine xl_pure rfl rfl rfl (pv_slice_l rfl rfl (.none _) (.none _) (.some rfl (by omega)) (by omega) (by simp)) ?_
        refine xl_pure rfl rfl rfl (pv_move (v := .slice _ _ _) rfl rfl) ?_
        refine xl_heavy rfl rfl rfl (hv_copy (dl := l.length + 1 - i) (dc := c - i) (sl := 1) (sc := 1) (news := [.int .i64 q0, .int .i64 q1]) rfl (congrArg (fun a => Value.slice a (l.length + 1 - i) (c - i)) (cut_at (n := i) (by omega))) rfl m15_8 mv.row (by rw [hmn1]; rfl) (by rw [setRange_length, hex]; show 0 + i * 2 + 2 ≤ _; omega) (by simp [Value.oneCell'])) ?_
        rintro v16_4 H16_4 hU16_4
        have hX := hX.upd hU16_4.but ⟨hgb⟩
        have m16_4 := hU16_4.blk
        rw [hsp, List.append_assoc, ins_cells2 hft rfl (by rw [List.length_append, hfd]; omega), ins_fr (T := []) (D := [])] at m16_4
        refine xl_nil ?_
        refine xthen_normal ?_
        refine xc_seq ?_
        refine xc_region ?_
        refine xl_pure rfl rfl rfl (pv_move (v := .slice _ _ _) rfl rfl) ?_
        refine xl_pure rfl rfl rfl (pv_assign (v := .slice _ _ _) rfl rfl) ?_
        refine xl_nil ?_
        refine xthen_normal ?_
        refine xc_ret ?_
        refine xthen_ret ?_
        refine fin_ret (res1 (v := .slice _ _ _) rfl rfl) ?_
        exact ⟨_, _, rfl, blk_rowsT m16_4 (ins_wide hw), hX⟩

theorem gInsertEnd {O : Outer} {H : Heap} {H0 : Heap} (hX0 : Ext H0 H) {a : Option Addr} {c vb : Nat} {l : List (List Int)} (hO : Own H H0.size 56 2 (.slice a l.length c) l.length (fr l)) (hcn : l.length ≤ c) (hw : Wide 2 l) (hl : l.length ≤ 1000) {q0 q1 : Int} (mv : Blk H vb [.int .i64 q0, .int .i64 q1] 56) :
    FnC Try.prog 42 #[.slice a l.length c, .int .i64 (l.length : Nat), .slice (some ⟨vb, 0, none⟩) 1 1] O H (fun v H' => ∃ a' c', v = .slice a' (l.length + 1) c' ∧ RowsT H' 56 2 a' (l ++ [[q0, q1]]) ∧ Ext H0 H') := by
  refine fn_enter (A := [.slice a l.length c, .int .i64 (l.length : Nat), .slice (some ⟨vb, 0, none⟩) 1 1]) Try.func42 rfl rfl ?_
  have hX := hX0
  refine xc_seq ?_
  refine xc_region ?_
  refine xl_pure rfl rfl rfl (pv_assign (v := .slice _ _ _) rfl rfl) ?_
  refine xl_nil ?_
  refine xthen_normal ?_
  refine xc_seq ?_
  refine xc_region ?_
  refine xl_pure rfl rfl rfl (pv_move (v := .slice _ _ _) rfl rfl) ?_
  refine xl_pure rfl rfl rfl (pv_move (v := .int _ _) rfl rfl) ?_
  refine xl_pure rfl rfl rfl (pv_slice_l rfl rfl (.none _) (.none _) (.some rfl (by omega)) (by omega) (by simp)) ?_
  refine xl_nil ?_
  refine xthen_normal ?_
  refine xc_seq ?_
  refine xc_region ?_
  refine xl_pure rfl rfl rfl (pv_move (v := .slice _ _ _) rfl rfl) ?_
  refine xl_pure rfl rfl rfl (pv_len_l rfl rfl) ?_
  refine xl_pure rfl rfl rfl (pv_assign (v := .int _ _) rfl rfl) ?_
  refine xl_nil ?_
  refine xthen_normal ?_
  refine xc_seq ?_
  refine xc_seq ?_
  refine xc_region ?_
  refine xl_pure rfl rfl rfl (pv_move (v := .int _ _) rfl rfl) ?_
  refine xl_dec rfl rfl rfl (pv_eql rfl rfl rfl) (fun h3_1 => ?_) (fun h3_1 => ?_)
  · exact absurd h3_1 (by decide)
  · skip
    refine xl_nil ?_
    refine xthen_normal ?_
    refine xc_cond_f rfl ?_
    refine xc_skip ?_
    refine xthen_normal ?_
    refine xc_seq ?_
    refine xc_region ?_
    refine xl_pure rfl rfl rfl (pv_move (v := .slice _ _ _) rfl rfl) ?_
    refine xl_pure rfl rfl rfl (pv_len_l rfl rfl) ?_
    refine xl_pure rfl rfl rfl (pv_assign (v := .int _ _) rfl rfl) ?_
    refine xl_nil ?_
    refine xthen_normal ?_
    refine xc_seq ?_
    refine xc_seq ?_
    refine xc_region ?_
    refine xl_pure rfl rfl rfl (pv_move (v := .int _ _) rfl rfl) ?_
    refine xl_pure rfl rfl rfl (pv_move (v := .int _ _) rfl rfl) ?_
    refine xl_dec rfl rfl rfl (pv_eql rfl rfl rfl) (fun h6_2 => ?_) (fun h6_2 => ?_)
    · skip
      refine xl_nil ?_
      refine xthen_normal ?_
      refine xc_cond_t rfl ?_
      refine xc_seq ?_
      refine xc_region ?_
      refine xl_pure rfl rfl rfl (pv_move (v := .slice _ _ _) rfl rfl) ?_
      refine xl_pure rfl rfl rfl (pv_move (v := .slice _ _ _) rfl rfl) ?_
      refine xl_heavy rfl rfl rfl (hv_append rfl rfl hO rfl mv.row rfl (by simp [Value.oneCell']) rfl (by decide) (by omega) (by omega) hX.size) ?_
      rintro v7_2 H7_2 ⟨hO7_2, hG7_2, -, hB7_2⟩
      have hX := Own.grown hO hX hG7_2 (Nat.le_refl _)
      obtain ⟨a7_2, c7_2, rfl⟩ := hO7_2.val
      refine xl_pure rfl rfl rfl (pv_assign (v := .slice _ _ _) rfl rfl) ?_
      refine xl_nil ?_
      refine xthen_normal ?_
      refine xc_ret ?_
      refine xthen_ret ?_
      refine fin_ret (res1 (v := .slice _ _ _) rfl rfl) ?_
      exact ⟨_, _, rfl, own_rowsT (n := l.length + 1) (hw.app (fun r hr => by rw [List.mem_singleton] at hr; rw [hr]; rfl)) (by rw [fr_app, List.length_append]; exact hO7_2), hX⟩
    · exact absurd rfl h6_2

theorem gInsert {O : Outer} {H H0 : Heap} (hX0 : Ext H0 H) {a : Option Addr} {c vb : Nat} {l : List (List Int)} (hO : Own H H0.size 56 2 (.slice a l.length c) l.length (fr l)) (hw : Wide 2 l) (i : Nat) (hi : i ≤ l.length) (hl : l.length ≤ 1000) {q0 q1 : Int} (mv : Blk H vb [.int .i64 q0, .int .i64 q1] 56) (hap : OwnApart vb (.slice a l.length c)) :
    FnC Try.prog 42 #[.slice a l.length c, .int .i64 (i : Nat), .slice (some ⟨vb, 0, none⟩) 1 1] O H (fun v H' => ∃ a' c', v = .slice a' (l.length + 1) c' ∧ RowsT H' 56 2 a' (l.take i ++ [[q0, q1]] ++ l.drop i) ∧ Ext H0 H') := by
  by_cases h : i < l.length
  · obtain ⟨g, ex, rfl, h1, h2, h3, h4, h5⟩ := (own_blk2 hO).resolve_left (by omega)
    exact gInsertIn hX0 h1 h2 h5 h3 hw i h hl mv (fun e => hap.ne (by rw [e]; rfl))
  · obtain rfl : i = l.length := by omega
    have hcn : l.length ≤ c := by
      rcases own_blk2 hO with ⟨_, h1, _⟩ | ⟨_, _, _, _, _, h3, _⟩ <;> omega
    refine (gInsertEnd hX0 hO hcn hw hl mv).mono fun v H' ⟨a', c', h1, h2, h3⟩ => ⟨a', c', h1, ?_, h3⟩
    rw [List.take_length, List.drop_length, List.append_nil]; exact h2

theorem del_cells {T D E Z : List Value} {k : Nat} (hE : D.length ≤ E.length) (hk : T.length + D.length ≤ k) : ∃ r', setRange (setRange (T ++ E) (0 + T.length) D) k Z = (T ++ D) ++ r' := by
  have e1 : setRange (T ++ E) (0 + T.length) D = (T ++ D) ++ E.drop D.length := by
    rw [Nat.zero_add]
    conv => lhs; rw [← List.take_append_drop D.length E]
    rw [setRange_at D T _ _ (by rw [List.length_take]; omega), List.append_assoc]
  rw [e1]
  exact setRange_pre Z (T ++ D) _ _ (by rw [List.length_append]; exact hk)

theorem gDelete {O : Outer} {H : Heap} {gb c : Nat} {ex : List Value} {l : List (List Int)} (mg : Blk H gb (fr l ++ ex) 56) (hex : (fr l ++ ex).length = c * 2) (hcn : l.length ≤ c) (hw : Wide 2 l) (i : Nat) (hi : i < l.length) (hl : l.length ≤ 1000) :
    FnC Try.prog 44 #[.slice (some ⟨gb, 0, none⟩) l.length c, .int .i64 (i : Nat), .int .i64 ((i : Nat) + 1 : Int)] O H (fun v H' => ∃ ex', v = .slice (some ⟨gb, 0, none⟩) (l.length - 1) c ∧ Blk H' gb (fr (l.take i ++ l.drop (i + 1)) ++ ex') 56 ∧ But gb H H') := by
  have hfl := fr_len hw
  have hft : (fr (l.take i)).length = i * 2 := (by rw [fr_len hw.take, List.length_take, Nat.min_eq_left (Nat.le_of_lt hi)])
  have hfd : (fr (l.drop (i + 1))).length = (l.length - (i + 1)) * 2 := (by rw [fr_len hw.drop, List.length_drop])
  have hsp : fr l = fr (l.take i) ++ fr (l.drop i) := by rw [← fr_app, List.take_append_drop]
  have hfd2 : (fr (l.drop i)).length = (l.length - i) * 2 := (by rw [fr_len hw.drop, List.length_drop])
  obtain ⟨so, hso, hso2⟩ := cut_any (b := gb) (n := i + 1) (m := c) (size := 2)
  have hrow : Row H gb so (fr (l.drop (i + 1))) := by rcases Nat.lt_or_ge (i + 1) c with h | h; rw [hso2 h]; exact row_drop mg hw (by omega); rw [List.drop_of_length_le (by omega)]; exact fun j v hv => by simp [fr] at hv
  have hnl : i + (l.length - (i + 1)) = l.length - 1 := by omega
  refine fn_enter (A := [.slice (some ⟨gb, 0, none⟩) l.length c, .int .i64 (i : Nat), .int .i64 ((i : Nat) + 1 : Int)]) Try.func44 rfl rfl ?_
  have hX := But.refl gb H
  refine xc_seq ?_
  refine xc_region ?_
  refine xl_pure rfl rfl rfl (pv_assign (v := .slice _ _ _) rfl rfl) ?_
  refine xl_nil ?_
  refine xthen_normal ?_
  refine xc_seq ?_
  refine xc_region ?_
  refine xl_pure rfl rfl rfl (pv_move (v := .slice _ _ _) rfl rfl) ?_
  refine xl_pure rfl rfl rfl (pv_move (v := .int _ _) rfl rfl) ?_
  refine xl_pure rfl rfl rfl (pv_move (v := .int _ _) rfl rfl) ?_
  refine xl_pure rfl rfl rfl (pv_move (v := .slice _ _ _) rfl rfl) ?_
  refine xl_pure rfl rfl rfl (pv_len_l rfl rfl) ?_
  refine xl_pure rfl rfl rfl (pv_slice_l rfl rfl (.some rfl (by omega)) (.some rfl (by omega)) (.some rfl (by omega)) (by omega) (by simp)) ?_
  refine xl_nil ?_
  refine xthen_normal ?_
  refine xc_seq ?_
  refine xc_seq ?_
  refine xc_region ?_
  refine xl_pure rfl rfl rfl (pv_move (v := .int _ _) rfl rfl) ?_
  refine xl_pure rfl rfl rfl (pv_move (v := .int _ _) rfl rfl) ?_
  refine xl_dec rfl rfl rfl (pv_eql rfl rfl rfl) (fun h2_2 => ?_) (fun h2_2 => ?_)
  · exact absurd h2_2 (by omega)
  · skip
    refine xl_nil ?_
    refine xthen_normal ?_
    refine xc_cond_f rfl ?_
    refine xc_skip ?_
    refine xthen_normal ?_
    refine xc_seq ?_
    refine xc_region ?_
    refine xl_pure rfl rfl rfl (pv_move (v := .slice _ _ _) rfl rfl) ?_
    refine xl_pure rfl rfl rfl (pv_len_l rfl rfl) ?_
    refine xl_pure rfl rfl rfl (pv_assign (v := .int _ _) rfl rfl) ?_
    refine xl_nil ?_
    refine xthen_normal ?_
    refine xc_seq ?_
    refine xp_start rfl (by repeat (first | with_reducible exact np_fin | with_reducible exact np_ret | with_reducible refine np_then ?_ | with_reducible refine np_block ?_)) (by kernel_rfl) ?_
    refine xp_pure (i := 0) rfl (by kernel_rfl) (by kernel_rfl) rfl rfl rfl (pv_move (v := .slice _ _ _) rfl rfl) ?_
    refine xp_pure (i := 1) rfl (by kernel_rfl) (by kernel_rfl) rfl rfl rfl (pv_move (v := .int _ _) rfl rfl) ?_
    refine xp_pure (i := 2) rfl (by kernel_rfl) (by kernel_rfl) rfl rfl rfl (pv_slice_l rfl rfl (.none _) (.some rfl (by omega)) (.none _) (by omega) (by simp)) ?_
    refine xp_pure (i := 3) rfl (by kernel_rfl) (by kernel_rfl) rfl rfl rfl (pv_move (v := .slice _ _ _) rfl rfl) ?_
    refine xp_pure (i := 4) rfl (by kernel_rfl) (by kernel_rfl) rfl rfl rfl (pv_move (v := .int _ _) rfl rfl) ?_
    refine xp_pure (i := 5) rfl (by kernel_rfl) (by kernel_rfl) rfl rfl rfl (pv_slice_l rfl rfl (.none _) (.none _) (.some rfl (by omega)) (by omega) (by simp)) ?_
    refine xp_heavy (i := 6) (by kernel_rfl) ?_
    refine xph_val rfl rfl rfl rfl (hv_append_room (n := i) (c := c) (m := l.length - (i + 1)) (c2 := c - (i + 1)) (news := fr (l.drop (i + 1))) rfl (congrArg (fun a => Value.slice a (i) (c)) cut_0) (congrArg (fun a => Value.slice a (l.length - (i + 1)) (c - (i + 1))) hso) mg hrow hfd (by omega) (by rw [hfd, hex]; omega) (fr_one _)) pn ?_
    rintro v5_6 H5_6 ⟨hv5_6, hU5_6⟩
    rw [hnl] at hv5_6
    subst hv5_6
    have hX := hX.trans hU5_6.but
    have m5_6 := hU5_6.blk
    refine ⟨okn, ?_⟩
    refine xp_pure (i := 7) rfl (by kernel_rfl) (by kernel_rfl) rfl rfl rfl (pv_assign (v := .slice _ _ _) rfl rfl) ?_
    refine xp_done (by kernel_rfl) ?_
    refine xthen_normal ?_
    refine xc_seq ?_
    refine xc_region ?_
    refine xl_pure rfl rfl rfl (pv_move (v := .slice _ _ _) rfl rfl) ?_
    refine xl_pure rfl rfl rfl (pv_move (v := .slice _ _ _) rfl rfl) ?_
    refine xl_pure rfl rfl rfl (pv_len_l rfl rfl) ?_
    refine xl_pure rfl rfl rfl (pv_move (v := .int _ _) rfl rfl) ?_
    refine xl_pure rfl rfl rfl (pv_slice_l rfl rfl (.none _) (.some rfl (by omega)) (.some rfl (by omega)) (by omega) (by simp)) ?_
    refine xl_store rfl rfl (hv_clear (off := 0 + (l.length - 1) * 2) (n := l.length - (l.length - 1)) rfl (congrArg (fun a => Value.slice a (l.length - (l.length - 1)) (c - (l.length - 1))) (cut_at (n := l.length - 1) (by omega))) (by omega) rfl m5_6 (by rw [zeroCells_len, setRange_length, hex]; show 0 + (l.length - 1) * 2 + (l.length - (l.length - 1)) * 2 ≤ _; omega) (zeroCells_one _ _ (by decide) (by decide))) ?_
    rintro v6_5 H6_5 hU6_5
    have hX := hX.trans hU6_5.but
    have m6_5 := hU6_5.blk
    rw [hsp, List.append_assoc, ← hft] at m6_5
    obtain ⟨r6, hr6⟩ := del_cells (T := fr (l.take i)) (D := fr (l.drop (i + 1))) (E := fr (l.drop i) ++ ex) (Z := (Builtin.zeroCells (Value.agg #[.int .i64 0, .int .i64 0]).cells (l.length - (l.length - 1))).toList) (k := 0 + (l.length - 1) * 2) (by rw [List.length_append, hfd, hfd2]; omega) (by rw [hft, hfd]; omega)
    rw [hr6, ← fr_app] at m6_5
    refine xl_nil ?_
    refine xthen_normal ?_
    refine xc_seq ?_
    refine xc_region ?_
    refine xl_pure rfl rfl rfl (pv_move (v := .slice _ _ _) rfl rfl) ?_
    refine xl_pure rfl rfl rfl (pv_assign (v := .slice _ _ _) rfl rfl) ?_
    refine xl_nil ?_
    refine xthen_normal ?_
    refine xc_ret ?_
    refine fin_ret (res1 (v := .slice _ _ _) rfl rfl) ?_
    exact ⟨_, rfl, m6_5, hX⟩
end Go.XG
