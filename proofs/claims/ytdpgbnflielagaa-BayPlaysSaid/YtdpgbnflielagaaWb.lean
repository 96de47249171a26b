/-
  Walks of the seat's functions over the logic XG: each function, what it computes. Printed by a program out of wip/walks.py.
-/
import Derived.Test.YtdpgbnflielagaaI
import Derived.Test.YtdpgbnflielagaaN
import Derived.Test.YtdpgbnflielagaaWa
namespace Go.XG
open Go.Proofs
set_option maxRecDepth 4000
set_option maxHeartbeats 4000000
theorem clone {O : Outer} {H : Heap} {a : Option Addr} {c : Nat} {l : List Int} (hs : Ints H a l) (hl : l.length < 1000000) :
    FnC Try.prog 28 #[.slice a l.length c] O H (fun v H' => ∃ a' c', v = .slice a' l.length c' ∧ IO H' a' c' l ∧ (∀ j, bk a' j → H.size ≤ j) ∧ Ext H H') := by
  refine fn_enter (A := [.slice a l.length c]) Try.func28 rfl rfl ?_
  have hX := Ext.refl H
  refine xc_seq ?_
  refine xc_region ?_
  refine xl_pure rfl rfl rfl (pv_assign (v := .slice _ _ _) rfl rfl) ?_
  refine xl_nil ?_
  refine xthen_normal ?_
  refine xc_seq ?_
  refine xc_seq ?_
  refine xc_region ?_
  refine xl_pure rfl rfl rfl (pv_move (v := .slice _ _ _) rfl rfl) ?_
  refine xl_pure rfl rfl rfl (pv_eql_sn rfl rfl rfl) ?_
  cases a
  · skip
    refine xl_nil ?_
    refine xthen_normal ?_
    refine xc_cond_t rfl ?_
    refine xc_seq ?_
    refine xc_region ?_
    refine xl_pure rfl rfl rfl (pv_assign (v := .slice _ _ _) rfl rfl) ?_
    refine xl_nil ?_
    refine xthen_normal ?_
    refine xc_ret ?_
    refine xthen_ret ?_
    refine fin_ret (res1 (v := .slice _ _ _) rfl rfl) ?_
    have h0 := ints_none hs; subst h0; exact ⟨none, 0, rfl, Own.nil _ _ _ _, fun j hj => bk_none hj, hX⟩
  · skip
    refine xl_nil ?_
    refine xthen_normal ?_
    refine xc_cond_f rfl ?_
    refine xc_skip ?_
    refine xthen_normal ?_
    refine xc_seq ?_
    refine xc_region ?_
    refine xl_heavy rfl rfl rfl (hv_buildSlice (cs := []) rfl rfl rfl rfl rfl) ?_
    rintro v3_0 H3_0 ⟨b3_0, rfl, hN3_0⟩
    have gb3_0 := hX.fresh hN3_0
    have hX := hX.trans hN3_0.ext
    have m3_0 := hN3_0.blk
    refine xl_pure rfl rfl rfl (pv_move (v := .slice _ _ _) rfl rfl) ?_
    refine xl_heavy rfl rfl rfl (hv_append_cells (size := 1) (news := ints l) rfl rfl (own_empty m3_0 gb3_0.le) rfl (ints_len1 l) (ints_src (hs.ext hX)) (ints_one1 l) rfl (by decide) (by omega) (by omega) hX.size) ?_
    rintro v3_2 H3_2 ⟨hO3_2, hG3_2⟩
    have hX := Own.grown (size := 1) (own_empty m3_0 gb3_0.le) hX hG3_2 (Nat.le_refl _)
    obtain ⟨a3_2, c3_2, rfl⟩ := hO3_2.val
    refine xl_pure rfl rfl rfl (pv_assign (v := .slice _ _ _) rfl rfl) ?_
    refine xl_nil ?_
    refine xthen_normal ?_
    refine xc_ret ?_
    refine fin_ret (res1 (v := .slice _ _ _) rfl rfl) ?_
    rw [Nat.zero_add, List.nil_append] at hO3_2; exact ⟨_, _, slv (Nat.zero_add _), own_io hO3_2, own_ge hO3_2, hX⟩

theorem insertIn {O : Outer} {H : Heap} {gb c vb : Nat} {ex : List Value} {l : List Int} (mg : Blk H gb (ints l ++ ex) 3) (hex : (ints l ++ ex).length = c * 1) (hcn : l.length ≤ c) (hcm : c ≤ maxLen) (i : Nat) (hi : i < l.length) (hl : l.length ≤ 1000) {q : Int} (mv : Blk H vb [.int .i64 q] 3) (hne : vb ≠ gb) :
    FnC Try.prog 41 #[.slice (some ⟨gb, 0, none⟩) l.length c, .int .i64 (i : Nat), .slice (some ⟨vb, 0, none⟩) 1 1] O H (fun v H' => ∃ a' c', v = .slice a' (l.length + 1) c' ∧ IO H' a' c' (l.take i ++ [q] ++ l.drop i) ∧ (∀ j, bk a' j → j = gb ∨ H.size ≤ j) ∧ KeepF (fun j => j = gb) H H') := by
  have hfl := ints_len1 l
  have hft : (ints (l.take i)).length = i * 1 := (by rw [ints_len1, List.length_take, Nat.min_eq_left (Nat.le_of_lt hi)])
  have hfd : (ints (l.drop i)).length = (l.length - i) * 1 := (by rw [ints_len1, List.length_drop])
  have hsp := ints_td l i
  have hexl : l.length * 1 + ex.length = c * 1 := by rw [← hfl, ← List.length_append]; exact hex
  have hmn1 : Nat.min 1 (l.length + 1 - i) = 1 := by show min _ _ = _; omega
  have hmn3 : Nat.min 1 (i + (l.length + 1 - i) - i) = 1 := by show min _ _ = _; omega
  have hmn4 : Nat.min (l.length - i) (i + (l.length + 1 - i) - (i + 1)) = l.length - i := by show min _ _ = _; omega
  have hmn5 : Nat.min (l.length + 1 - i) (l.length + 1 - (i + 1)) = l.length - i := by show min _ _ = _; omega
  refine fn_enter (A := [.slice (some ⟨gb, 0, none⟩) l.length c, .int .i64 (i : Nat), .slice (some ⟨vb, 0, none⟩) 1 1]) Try.func41 rfl rfl ?_
  have hX := KeepF.refl (fun j => j = gb) H
  refine xc_seq ?_
  refine xc_region ?_
  refine xl_pure rfl rfl rfl (pv_assign (v := .slice _ _ _) rfl rfl) ?_
  refine xl_nil ?_
  refine xthen_normal ?_
  refine xc_seq ?_
  refine xc_region ?_
  refine xl_pure rfl rfl rfl (pv_move (v := .slice _ _ _) rfl rfl) ?_
  refine xl_pure rfl rfl rfl (pv_move (v := .int _ _) rfl rfl) ?_
  refine xl_pure rfl rfl rfl (pv_slice_l rfl rfl (.none _) (.none _) (.some rfl (by omega)) (by omega) (by simp)) ?_
  refine xl_nil ?_
  refine xthen_normal ?_
  refine xc_seq ?_
  refine xc_region ?_
  refine xl_pure rfl rfl rfl (pv_move (v := .slice _ _ _) rfl rfl) ?_
  refine xl_pure rfl rfl rfl (pv_len_l rfl rfl) ?_
  refine xl_pure rfl rfl rfl (pv_assign (v := .int _ _) rfl rfl) ?_
  refine xl_nil ?_
  refine xthen_normal ?_
  refine xc_seq ?_
  refine xc_seq ?_
  refine xc_region ?_
  refine xl_pure rfl rfl rfl (pv_move (v := .int _ _) rfl rfl) ?_
  refine xl_dec rfl rfl rfl (pv_eql rfl rfl rfl) (fun h3_1 => ?_) (fun h3_1 => ?_)
  · exact absurd h3_1 (by decide)
  · skip
    refine xl_nil ?_
    refine xthen_normal ?_
    refine xc_cond_f rfl ?_
    refine xc_skip ?_
    refine xthen_normal ?_
    refine xc_seq ?_
    refine xc_region ?_
    refine xl_pure rfl rfl rfl (pv_move (v := .slice _ _ _) rfl rfl) ?_
    refine xl_pure rfl rfl rfl (pv_len_l rfl rfl) ?_
    refine xl_pure rfl rfl rfl (pv_assign (v := .int _ _) rfl rfl) ?_
    refine xl_nil ?_
    refine xthen_normal ?_
    refine xc_seq ?_
    refine xc_seq ?_
    refine xc_region ?_
    refine xl_pure rfl rfl rfl (pv_move (v := .int _ _) rfl rfl) ?_
    refine xl_pure rfl rfl rfl (pv_move (v := .int _ _) rfl rfl) ?_
    refine xl_dec rfl rfl rfl (pv_eql rfl rfl rfl) (fun h6_2 => ?_) (fun h6_2 => ?_)
    · exact absurd h6_2 (by omega)
    · skip
      refine xl_nil ?_
      refine xthen_normal ?_
      refine xc_cond_f rfl ?_
      refine xc_skip ?_
      refine xthen_normal ?_
      refine xc_seq ?_
      refine xc_seq ?_
      refine xc_region ?_
      refine xl_pure rfl rfl rfl (pv_move (v := .int _ _) rfl rfl) ?_
      refine xl_pure rfl rfl rfl (pv_move (v := .int _ _) rfl rfl) ?_
      refine xl_pure rfl rfl rfl (pv_add rfl rfl rfl (fit_i64 (by omega))) ?_
      refine xl_pure rfl rfl rfl (pv_move (v := .slice _ _ _) rfl rfl) ?_
      refine xl_pure rfl rfl rfl (pv_cap_l rfl rfl) ?_
      refine xl_dec rfl rfl rfl (pv_gtr rfl rfl rfl) (fun h8_5 => ?_) (fun h8_5 => ?_)
      · skip
        refine xl_nil ?_
        refine xthen_normal ?_
        refine xc_cond_t rfl ?_
        refine xc_seq ?_
        refine xc_region ?_
        refine xl_pure rfl rfl rfl (pv_move (v := .slice _ _ _) rfl rfl) ?_
        refine xl_pure rfl rfl rfl (pv_move (v := .int _ _) rfl rfl) ?_
        refine xl_pure rfl rfl rfl (pv_slice_l rfl rfl (.none _) (.some rfl (by omega)) (.none _) (by omega) (by simp)) ?_
        refine xl_pure rfl rfl rfl (pv_move (v := .int _ _) rfl rfl) ?_
        refine xl_pure rfl rfl rfl (pv_move (v := .int _ _) rfl rfl) ?_
        refine xl_pure rfl rfl rfl (pv_add rfl rfl rfl (fit_i64 (by omega))) ?_
        refine xl_pure rfl rfl rfl (pv_move (v := .int _ _) rfl rfl) ?_
        refine xl_pure rfl rfl rfl (pv_sub rfl rfl rfl (fit_i64 (by omega))) ?_
        refine xl_heavy rfl rfl rfl (hv_append_make (a := ⟨gb, 0, none⟩) (n := i) (c := c) (xs := ints (l.take i)) (m := l.length + 1 - i) rfl (congrArg (fun a => Value.slice a (i) (c)) cut_0) ⟨gb, 0, rfl, row_takeI mg i⟩ hft (iv (by omega)) (by omega) (by decide) rfl (by omega) (by omega) (by omega)) ?_
        rintro v9_8 H9_8 ⟨b9_8, c9_8, ex9_8, rfl, hc9_8, hl9_8, hm9_8, hN9_8⟩
        have lg := mg.lt
        have lv := mv.lt
        have gb9_8 := hX.fresh hN9_8
        have mg := mg.ext hN9_8.ext
        have mv := mv.ext hN9_8.ext
        have hX := hX.transE hN9_8.ext
        have m9_8 := hN9_8.blk
        have hil : i + (l.length + 1 - i) = l.length + 1 := by omega
        refine xl_pure rfl rfl rfl (pv_assign (v := .slice _ _ _) rfl rfl) ?_
        refine xl_nil ?_
        refine xthen_normal ?_
        refine xc_seq ?_
        refine xc_region ?_
        refine xl_pure rfl rfl rfl (pv_move (v := .slice _ _ _) rfl rfl) ?_
        refine xl_pure rfl rfl rfl (pv_move (v := .int _ _) rfl rfl) ?_
        refine xl_pure rfl rfl rfl (pv_slice_l rfl rfl (.none _) (.none _) (.some rfl (by omega)) (by omega) (by simp)) ?_
        refine xl_pure rfl rfl rfl (pv_move (v := .slice _ _ _) rfl rfl) ?_
        refine xl_heavy rfl rfl rfl (hv_copy (dl := i + (l.length + 1 - i) - i) (dc := c9_8 - i) (sl := 1) (sc := 1) (news := [.int .i64 q]) rfl (congrArg (fun a => Value.slice a (i + (l.length + 1 - i) - i) (c9_8 - i)) (cut_at (n := i) (size := 1) (by omega))) rfl m9_8 mv.row (by rw [hmn3]; rfl) (by rw [List.length_append, hft, hl9_8]; show 0 + i * 1 + 1 ≤ _; omega) (by simp [Value.oneCell'])) ?_
        rintro v10_4 H10_4 hU10_4
        have mg := mg.but hU10_4.but (fun h => by have := hN9_8.ge; omega)
        have mv := mv.but hU10_4.but (fun h => by have := hN9_8.ge; omega)
        have hX := hX.upd hU10_4.but gb9_8
        have m10_4 := hU10_4.blk
        refine xl_nil ?_
        refine xthen_normal ?_
        refine xc_seq ?_
        refine xp_start rfl (by repeat (first | with_reducible exact np_fin | with_reducible exact np_ret | with_reducible refine np_then ?_ | with_reducible refine np_block ?_)) (by kernel_rfl) ?_
        refine xp_pure (i := 0) rfl (by kernel_rfl) (by kernel_rfl) rfl rfl rfl (pv_move (v := .slice _ _ _) rfl rfl) ?_
        refine xp_pure (i := 1) rfl (by kernel_rfl) (by kernel_rfl) rfl rfl rfl (pv_move (v := .int _ _) rfl rfl) ?_
        refine xp_pure (i := 2) rfl (by kernel_rfl) (by kernel_rfl) rfl rfl rfl (pv_move (v := .int _ _) rfl rfl) ?_
        refine xp_pure (i := 3) rfl (by kernel_rfl) (by kernel_rfl) rfl rfl rfl (pv_add rfl rfl rfl (fit_i64 (by omega))) ?_
        refine xp_pure (i := 4) rfl (by kernel_rfl) (by kernel_rfl) rfl rfl rfl (pv_slice_l rfl rfl (.none _) (.none _) (.some rfl (by omega)) (by omega) (by simp)) ?_
        refine xp_pure (i := 5) rfl (by kernel_rfl) (by kernel_rfl) rfl rfl rfl (pv_move (v := .slice _ _ _) rfl rfl) ?_
        refine xp_pure (i := 6) rfl (by kernel_rfl) (by kernel_rfl) rfl rfl rfl (pv_move (v := .int _ _) rfl rfl) ?_
        refine xp_pure (i := 7) rfl (by kernel_rfl) (by kernel_rfl) rfl rfl rfl (pv_slice_l rfl rfl (.none _) (.none _) (.some rfl (by omega)) (by omega) (by simp)) ?_
        refine xp_heavy (i := 8) (by kernel_rfl) ?_
        refine xph_val rfl rfl rfl rfl (hv_copy (dl := i + (l.length + 1 - i) - (i + 1)) (dc := c9_8 - (i + 1)) (sl := l.length - i) (sc := c - i) (news := ints (l.drop i)) rfl (congrArg (fun a => Value.slice a (i + (l.length + 1 - i) - (i + 1)) (c9_8 - (i + 1))) (cut_at (n := i + 1) (size := 1) (by omega))) (congrArg (fun a => Value.slice a (l.length - i) (c - i)) (cut_at (n := i) (size := 1) (by omega))) m10_4 (row_dropI mg (Nat.le_of_lt hi)) (by rw [hfd, hmn4]) (by rw [setRange_length, List.length_append, hft, hl9_8, hfd]; omega) (ints_one1 _)) pn ?_
        rintro v11_8 H11_8 hU11_8
        have hX := hX.upd hU11_8.but gb9_8
        have m11_8 := hU11_8.blk
        have hcl : (ints (l.take i) ++ ex9_8).length = c9_8 := by rw [List.length_append, hft, hl9_8]; omega
        have hsl : (setRange (setRange (ints (l.take i) ++ ex9_8) (0 + i * 1) [.int .i64 q]) (0 + (i + 1) * 1) (ints (l.drop i))).length = c9_8 := by rw [setRange_length, setRange_length, hcl]
        rw [ins1_cells hft rfl (by rw [hfd, hl9_8]; omega), ints_ins] at m11_8 hsl
        refine ⟨okn, ?_⟩
        refine xp_done (by kernel_rfl) ?_
        refine xthen_normal ?_
        refine xc_seq ?_
        refine xc_region ?_
        refine xl_pure rfl rfl rfl (pv_move (v := .slice _ _ _) rfl rfl) ?_
        refine xl_pure rfl rfl rfl (pv_assign (v := .slice _ _ _) rfl rfl) ?_
        refine xl_nil ?_
        refine xthen_normal ?_
        refine xc_ret ?_
        refine xthen_ret ?_
        refine fin_ret (res1 (v := .slice _ _ _) rfl rfl) ?_
        exact ⟨_, _, slv hil, io_mk m11_8 (by rw [ins_len (Nat.le_of_lt hi)]; omega) hm9_8 hsl, fun j hj => .inr (by rw [bk_some hj]; exact gb9_8.le), hX⟩
      · skip
        refine xl_nil ?_
        refine xthen_normal ?_
        refine xc_cond_f rfl ?_
        refine xc_skip ?_
        refine xthen_normal ?_
        refine xc_seq ?_
        refine xc_region ?_
        refine xl_pure rfl rfl rfl (pv_move (v := .slice _ _ _) rfl rfl) ?_
        refine xl_pure rfl rfl rfl (pv_move (v := .int _ _) rfl rfl) ?_
        refine xl_pure rfl rfl rfl (pv_move (v := .int _ _) rfl rfl) ?_
        refine xl_pure rfl rfl rfl (pv_add rfl rfl rfl (fit_i64 (by omega))) ?_
        refine xl_pure rfl rfl rfl (pv_slice_l rfl rfl (.none _) (.some rfl (by omega)) (.none _) (by omega) (by simp)) ?_
        refine xl_pure rfl rfl rfl (pv_assign (v := .slice (some ⟨gb, 0, none⟩) (l.length + 1) c) rfl (congrArg (fun a => Value.slice a (l.length + 1) (c)) cut_0)) ?_
        refine xl_nil ?_
        refine xthen_normal ?_
        refine xc_seq ?_
        refine xc_seq ?_
        refine xc_region ?_
        refine xl_pure rfl rfl rfl (pv_move (v := .slice _ _ _) rfl rfl) ?_
        refine xl_pure rfl rfl rfl (pv_move (v := .slice _ _ _) rfl rfl) ?_
        refine xl_pure rfl rfl rfl (pv_move (v := .int _ _) rfl rfl) ?_
        refine xl_pure rfl rfl rfl (pv_move (v := .int _ _) rfl rfl) ?_
        refine xl_pure rfl rfl rfl (pv_add rfl rfl rfl (fit_i64 (by omega))) ?_
        refine xl_pure rfl rfl rfl (pv_slice_l rfl rfl (.none _) (.none _) (.some rfl (by omega)) (by omega) (by simp)) ?_
        refine xl_heavy rfl rfl rfl (hv_overlaps (tS := 38) (tR := 4) rfl rfl rfl (congrArg (fun a => Value.slice a (l.length + 1 - (i + 1)) (c - (i + 1))) (cut_at (n := i + 1) (size := 1) (by omega))) Try.func50 (by kernel_rfl) (by kernel_rfl) (by kernel_rfl) (by kernel_rfl) mv mg hne (fun h => by rw [h] at hex; simp at hex; omega)) ?_
        rintro v14_6 H14_6 ⟨rfl, rfl⟩
        refine xl_pure rfl rfl rfl (pv_not rfl rfl) ?_
        refine xl_nil ?_
        refine xthen_normal ?_
        refine xc_cond_t rfl ?_
        refine xc_seq ?_
        refine xp_start rfl (by repeat (first | with_reducible exact np_fin | with_reducible exact np_ret | with_reducible refine np_then ?_ | with_reducible refine np_block ?_)) (by kernel_rfl) ?_
        refine xp_pure (i := 0) rfl (by kernel_rfl) (by kernel_rfl) rfl rfl rfl (pv_move (v := .slice _ _ _) rfl rfl) ?_
        refine xp_pure (i := 1) rfl (by kernel_rfl) (by kernel_rfl) rfl rfl rfl (pv_move (v := .int _ _) rfl rfl) ?_
        refine xp_pure (i := 2) rfl (by kernel_rfl) (by kernel_rfl) rfl rfl rfl (pv_move (v := .int _ _) rfl rfl) ?_
        refine xp_pure (i := 3) rfl (by kernel_rfl) (by kernel_rfl) rfl rfl rfl (pv_add rfl rfl rfl (fit_i64 (by omega))) ?_
        refine xp_pure (i := 4) rfl (by kernel_rfl) (by kernel_rfl) rfl rfl rfl (pv_slice_l rfl rfl (.none _) (.none _) (.some rfl (by omega)) (by omega) (by simp)) ?_
        refine xp_pure (i := 5) rfl (by kernel_rfl) (by kernel_rfl) rfl rfl rfl (pv_move (v := .slice _ _ _) rfl rfl) ?_
        refine xp_pure (i := 6) rfl (by kernel_rfl) (by kernel_rfl) rfl rfl rfl (pv_move (v := .int _ _) rfl rfl) ?_
        refine xp_pure (i := 7) rfl (by kernel_rfl) (by kernel_rfl) rfl rfl rfl (pv_slice_l rfl rfl (.none _) (.none _) (.some rfl (by omega)) (by omega) (by simp)) ?_
        refine xp_heavy (i := 8) (by kernel_rfl) ?_
        refine xph_val rfl rfl rfl rfl (hv_copy (dl := l.length + 1 - (i + 1)) (dc := c - (i + 1)) (sl := l.length + 1 - i) (sc := c - i) (news := ints (l.drop i)) rfl (congrArg (fun a => Value.slice a (l.length + 1 - (i + 1)) (c - (i + 1))) (cut_at (n := i + 1) (size := 1) (by omega))) (congrArg (fun a => Value.slice a (l.length + 1 - i) (c - i)) (cut_at (n := i) (size := 1) (by omega))) mg (row_dropI mg (Nat.le_of_lt hi)) (by rw [hfd, hmn5]) (by rw [hfd, hex]; omega) (ints_one1 _)) pn ?_
        rintro v15_8 H15_8 hU15_8
        have mv := mv.but hU15_8.but hne
        have hX := hX.own hU15_8.but rfl
        have m15_8 := hU15_8.blk
        refine ⟨okn, ?_⟩
        refine xp_done (by kernel_rfl) ?_
        refine xthen_normal ?_
        refine xc_seq ?_
        refine xc_region ?_
        refine xl_pure rfl rfl rfl (pv_move (v := .slice _ _ _) rfl rfl) ?_
        refine xl_pure rfl rfl rfl (pv_move (v := .int _ _) rfl rfl) ?_
        refine xl_pure rfl rfl rfl (pv_slice_l rfl rfl (.none _) (.none _) (.some rfl (by omega)) (by omega) (by simp)) ?_
        refine xl_pure rfl rfl rfl (pv_move (v := .slice _ _ _) rfl rfl) ?_
        refine xl_heavy rfl rfl rfl (hv_copy (dl := l.length + 1 - i) (dc := c - i) (sl := 1) (sc := 1) (news := [.int .i64 q]) rfl (congrArg (fun a => Value.slice a (l.length + 1 - i) (c - i)) (cut_at (n := i) (size := 1) (by omega))) rfl m15_8 mv.row (by rw [hmn1]; rfl) (by rw [setRange_length, hex]; show 0 + i * 1 + 1 ≤ _; omega) (by simp [Value.oneCell'])) ?_
        rintro v16_4 H16_4 hU16_4
        have hX := hX.own hU16_4.but rfl
        have m16_4 := hU16_4.blk
        have hsl : (setRange (setRange (ints l ++ ex) (0 + (i + 1) * 1) (ints (l.drop i))) (0 + i * 1) [.int .i64 q]).length = c := by rw [setRange_length, setRange_length, hex]; omega
        rw [hsp, List.append_assoc, ins1_cells2 hft rfl (by rw [List.length_append, hfd]; omega), ints_ins] at m16_4 hsl
        refine xl_nil ?_
        refine xthen_normal ?_
        refine xc_seq ?_
        refine xc_region ?_
        refine xl_pure rfl rfl rfl (pv_move (v := .slice _ _ _) rfl rfl) ?_
        refine xl_pure rfl rfl rfl (pv_assign (v := .slice _ _ _) rfl rfl) ?_
        refine xl_nil ?_
        refine xthen_normal ?_
        refine xc_ret ?_
        refine xthen_ret ?_
        refine fin_ret (res1 (v := .slice _ _ _) rfl rfl) ?_
        exact ⟨_, _, rfl, io_mk m16_4 (by rw [ins_len (Nat.le_of_lt hi)]; omega) hcm hsl, fun j hj => .inl (bk_some hj), hX⟩

theorem insertEnd {O : Outer} {H : Heap} {a : Option Addr} {c vb : Nat} {l : List Int} (hO : IO H a c l) (hcn : l.length ≤ c) (hl : l.length ≤ 1000) {q : Int} (mv : Blk H vb [.int .i64 q] 3) :
    FnC Try.prog 41 #[.slice a l.length c, .int .i64 (l.length : Nat), .slice (some ⟨vb, 0, none⟩) 1 1] O H (fun v H' => ∃ a' c', v = .slice a' (l.length + 1) c' ∧ IO H' a' c' (l ++ [q]) ∧ (∀ j, bk a' j → bk a j ∨ H.size ≤ j) ∧ KeepF (bk a) H H') := by
  refine fn_enter (A := [.slice a l.length c, .int .i64 (l.length : Nat), .slice (some ⟨vb, 0, none⟩) 1 1]) Try.func41 rfl rfl ?_
  have hX := KeepF.refl (bk a) H
  refine xc_seq ?_
  refine xc_region ?_
  refine xl_pure rfl rfl rfl (pv_assign (v := .slice _ _ _) rfl rfl) ?_
  refine xl_nil ?_
  refine xthen_normal ?_
  refine xc_seq ?_
  refine xc_region ?_
  refine xl_pure rfl rfl rfl (pv_move (v := .slice _ _ _) rfl rfl) ?_
  refine xl_pure rfl rfl rfl (pv_move (v := .int _ _) rfl rfl) ?_
  refine xl_pure rfl rfl rfl (pv_slice_l rfl rfl (.none _) (.none _) (.some rfl (by omega)) (by omega) (by simp)) ?_
  refine xl_nil ?_
  refine xthen_normal ?_
  refine xc_seq ?_
  refine xc_region ?_
  refine xl_pure rfl rfl rfl (pv_move (v := .slice _ _ _) rfl rfl) ?_
  refine xl_pure rfl rfl rfl (pv_len_l rfl rfl) ?_
  refine xl_pure rfl rfl rfl (pv_assign (v := .int _ _) rfl rfl) ?_
  refine xl_nil ?_
  refine xthen_normal ?_
  refine xc_seq ?_
  refine xc_seq ?_
  refine xc_region ?_
  refine xl_pure rfl rfl rfl (pv_move (v := .int _ _) rfl rfl) ?_
  refine xl_dec rfl rfl rfl (pv_eql rfl rfl rfl) (fun h3_1 => ?_) (fun h3_1 => ?_)
  · exact absurd h3_1 (by decide)
  · skip
    refine xl_nil ?_
    refine xthen_normal ?_
    refine xc_cond_f rfl ?_
    refine xc_skip ?_
    refine xthen_normal ?_
    refine xc_seq ?_
    refine xc_region ?_
    refine xl_pure rfl rfl rfl (pv_move (v := .slice _ _ _) rfl rfl) ?_
    refine xl_pure rfl rfl rfl (pv_len_l rfl rfl) ?_
    refine xl_pure rfl rfl rfl (pv_assign (v := .int _ _) rfl rfl) ?_
    refine xl_nil ?_
    refine xthen_normal ?_
    refine xc_seq ?_
    refine xc_seq ?_
    refine xc_region ?_
    refine xl_pure rfl rfl rfl (pv_move (v := .int _ _) rfl rfl) ?_
    refine xl_pure rfl rfl rfl (pv_move (v := .int _ _) rfl rfl) ?_
    refine xl_dec rfl rfl rfl (pv_eql rfl rfl rfl) (fun h6_2 => ?_) (fun h6_2 => ?_)
    · skip
      refine xl_nil ?_
      refine xthen_normal ?_
      refine xc_cond_t rfl ?_
      refine xc_seq ?_
      refine xc_region ?_
      refine xl_pure rfl rfl rfl (pv_move (v := .slice _ _ _) rfl rfl) ?_
      refine xl_pure rfl rfl rfl (pv_move (v := .slice _ _ _) rfl rfl) ?_
      refine xl_heavy rfl rfl rfl (hv_append rfl rfl hO rfl mv.row rfl (by simp [Value.oneCell']) rfl (by decide) (by omega) (by omega) (Nat.zero_le _)) ?_
      rintro v7_2 H7_2 ⟨hO7_2, hG7_2, -, hB7_2⟩
      have hX := hX.grown hG7_2 (fun i h => .inl (own_bk h))
      obtain ⟨a7_2, c7_2, rfl⟩ := hO7_2.val
      refine xl_pure rfl rfl rfl (pv_assign (v := .slice _ _ _) rfl rfl) ?_
      refine xl_nil ?_
      refine xthen_normal ?_
      refine xc_ret ?_
      refine xthen_ret ?_
      refine fin_ret (res1 (v := .slice _ _ _) rfl rfl) ?_
      exact ⟨_, _, rfl, io_app hO7_2, io_bk hB7_2, hX⟩
    · exact absurd rfl h6_2

theorem insertK {O : Outer} {H : Heap} {a : Option Addr} {c vb : Nat} {l : List Int} (hO : IO H a c l) (i : Nat) (hi : i ≤ l.length) (hl : l.length ≤ 1000) {q : Int} (mv : Blk H vb [.int .i64 q] 3) (hne : ¬ bk a vb) :
    FnC Try.prog 41 #[.slice a l.length c, .int .i64 (i : Nat), .slice (some ⟨vb, 0, none⟩) 1 1] O H (fun v H' => ∃ a' c', v = .slice a' (l.length + 1) c' ∧ IO H' a' c' (l.take i ++ [q] ++ l.drop i) ∧ (∀ j, bk a' j → bk a j ∨ H.size ≤ j) ∧ KeepF (bk a) H H') := by
  by_cases h : i < l.length
  · rcases hO.blk with ⟨_, h1, _⟩ | ⟨g, ex, rfl, h2, h3, h4, h5⟩
    · rw [h1] at h; exact absurd h (by simp)
    · refine (insertIn h2 (by omega) h3 h4 i h hl mv (fun e => hne ⟨_, rfl, e.symm⟩)).mono fun v H' ⟨a', c', g1, g2, g3, g4⟩ => ⟨a', c', g1, g2, fun j hj => (g3 j hj).imp (fun e => ⟨_, rfl, e.symm⟩) id, ⟨g4.size, fun j hj hn => g4.same j hj (fun e => hn ⟨_, rfl, e.symm⟩)⟩⟩
  · obtain rfl : i = l.length := by omega
    have hcn : l.length ≤ c := by
      rcases hO.blk with ⟨_, h1, _⟩ | ⟨g, ex, _, _, h3, _⟩
      · rw [h1]; exact Nat.zero_le _
      · exact h3
    refine (insertEnd hO hcn hl mv).mono fun v H' ⟨a', c', h1, h2, h3⟩ => ⟨a', c', h1, ?_, h3⟩
    rw [List.take_length, List.drop_length, List.append_nil]; exact h2
end Go.XG
