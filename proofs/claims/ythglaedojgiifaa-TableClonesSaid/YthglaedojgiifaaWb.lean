/-
  Walks of the seat's functions over the logic XG: each function, what it computes. Printed by a program out of wip/walks.py.
-/
import Derived.Test.YthglaedojgiifaaI
import Derived.Test.YthglaedojgiifaaTm
import Derived.Test.YthglaedojgiifaaTa
import Derived.Test.YthglaedojgiifaaTb
import Derived.Test.YthglaedojgiifaaTc
import Derived.Test.YthglaedojgiifaaTd
import Derived.Test.YthglaedojgiifaaTe
import Derived.Test.YthglaedojgiifaaP
import Derived.Test.YthglaedojgiifaaWa
namespace Go.XG
open Go.Proofs
set_option maxRecDepth 4000
set_option maxHeartbeats 4000000
theorem c28 {O : Outer} {H : Heap} {a : Option Addr} {c : Nat} {l : List (List Int)} (hR : RowsT H 52 5 a l) (hl : l.length < 1099511627776) (k : List Int) (hk : k.length = 4) (hs : Srt l) (hc : l.length ≤ c) (x : Int) :
    FnC Try.prog 28 #[.slice a l.length c, .agg (ints k).toArray, .int .i64 x] O H (fun v H' => ∃ a' c', v = .tuple #[.slice a' (List.length (putR l (k ++ [x]))) c', .bool (!hasK l k)] ∧ RowsT H' 52 5 a' (putR l (k ++ [x])) ∧ List.length (putR l (k ++ [x])) ≤ c' ∧ Ext H H') := by
  refine fn_enter (A := [.slice a l.length c, .agg (ints k).toArray, .int .i64 x]) Try.func28 rfl rfl ?_
  have hX := Ext.refl H
  refine xc_seq ?_
  refine xc_region ?_
  refine xl_heavy rfl rfl rfl (hv_box rfl rfl) ?_
  rintro v0_0 H0_0 ⟨b0_0, rfl, hN0_0⟩
  have gb0_0 := hX.fresh hN0_0
  have hX := hX.trans hN0_0.ext
  have m0_0 := hN0_0.blk
  refine xl_pure rfl rfl rfl (pv_assign (v := .slice _ _ _) rfl rfl) ?_
  refine xl_pure rfl rfl rfl (pv_assign (v := .bool _) rfl rfl) ?_
  refine xl_nil ?_
  refine xthen_normal ?_
  refine xc_seq ?_
  refine xc_region ?_
  refine xl_pure rfl rfl rfl (pv_move (v := .slice _ _ _) rfl rfl) ?_
  refine xl_light rfl rfl rfl (lv_load (v := .agg _) rfl rfl (ld_ints m0_0 hk)) ?_
  refine xl_heavy rfl rfl rfl (hv_call (g := 30) rfl rfl (c30 (hR.ext hX) hl k hk) rfl) ?_
  rintro v1_2 H1_2 ⟨rfl, hE1_2⟩
  have m0_0 := m0_0.ext hE1_2
  have hX := hX.trans hE1_2
  cases hh1_2 : hasK l k
  · skip
    refine xl_pure rfl rfl rfl (pv_move (v := .tuple _) rfl rfl) ?_
    refine xl_pure rfl rfl rfl (pv_extract (v := .int _ _) rfl rfl rfl) ?_
    refine xl_pure rfl rfl rfl (pv_extract (v := .bool _) rfl rfl rfl) ?_
    refine xl_pure rfl rfl rfl (pv_assign (v := .int _ _) rfl rfl) ?_
    refine xl_pure rfl rfl rfl (pv_assign (v := .bool _) rfl rfl) ?_
    refine xl_nil ?_
    refine xthen_normal ?_
    refine xc_seq ?_
    refine xc_region ?_
    refine xl_pure rfl rfl rfl (pv_assign (v := .slice _ _ _) rfl rfl) ?_
    refine xl_nil ?_
    refine xthen_normal ?_
    refine xc_seq ?_
    have hbl := bel_le l k
    have hw := hR.wide
    refine xc_region ?_
    refine xl_pure rfl rfl rfl (pv_move (v := .slice _ _ _) rfl rfl) ?_
    refine xl_pure rfl rfl rfl (pv_move (v := .slice _ _ _) rfl rfl) ?_
    refine xl_pure rfl rfl rfl (pv_move (v := .int _ _) rfl rfl) ?_
    refine xl_pure rfl rfl rfl (pv_slice_l rfl rfl (.none _) (.some rfl (by omega)) (.none _) (by omega) (by simp)) ?_
    refine xl_heavy rfl rfl rfl (hv_append_rows (size := 5) (l := []) (l' := l.take (bel l k)) rfl rfl (Own.nil _ H.size 52 5) rfl (by simp; try omega) (by exact (by rw [cutA_0]; exact (hR.ext hX).take (by omega))) rfl (by decide) (by omega) (by omega) hX.size) ?_
    rintro v3_4 H3_4 ⟨hO3_4, hG3_4⟩
    have m0_0 := m0_0.offT ((Own.nil _ H.size 52 5)) hG3_4 rfl
    have hX := Own.grown ((Own.nil _ H.size 52 5)) hX hG3_4 (Nat.le_refl _)
    obtain ⟨a3_4, c3_4, rfl⟩ := hO3_4.val
    refine xl_pure rfl rfl rfl (pv_assign (v := .slice _ _ _) rfl rfl) ?_
    refine xl_nil ?_
    refine xthen_normal ?_
    refine xc_seq ?_
    refine xc_region ?_
    refine xl_pure rfl rfl rfl (pv_move (v := .slice _ _ _) rfl rfl) ?_
    refine xl_light rfl rfl rfl (lv_load (v := .agg _) rfl rfl (ld_ints m0_0 hk)) ?_
    refine xl_pure rfl rfl rfl (pv_move (v := .int _ _) rfl rfl) ?_
    refine xl_pure rfl rfl rfl (pv_build_pair (xs := ints k) (ys := [.int .i64 x]) rfl rfl rfl rfl rfl (by rw [ints_ten hk]; rfl) (by rw [ints_ten hk]; rfl) (by rw [ints_ten hk]; rfl)) ?_
    refine xl_heavy rfl rfl rfl (hv_buildSlice (cs := ints k ++ [.int .i64 x]) rfl rfl (parts1 (by simp [ints, hk])) rfl rfl) ?_
    rintro v4_4 H4_4 ⟨b4_4, rfl, hN4_4⟩
    have m0_0 := m0_0.ext hN4_4.ext
    have hO3_4 := hO3_4.ext hN4_4.ext
    have hX := hX.trans hN4_4.ext
    refine xl_heavy rfl rfl rfl (hv_append_rows (size := 5) (l := [] ++ l.take (bel l k)) (l' := [k ++ [x]]) rfl rfl hO3_4 rfl (by simp; try omega) (by exact (rowsT1 hN4_4.blk (by simp [ints]) (by simp [hk]))) rfl (by decide) (by omega) (by omega) hX.size) ?_
    rintro v4_5 H4_5 ⟨hO4_5, hG4_5⟩
    have m0_0 := m0_0.offT (hO3_4) hG4_5 rfl
    have hX := Own.grown (hO3_4) hX hG4_5 (Nat.le_refl _)
    obtain ⟨a4_5, c4_5, rfl⟩ := hO4_5.val
    refine xl_pure rfl rfl rfl (pv_assign (v := .slice _ _ _) rfl rfl) ?_
    refine xl_nil ?_
    refine xthen_normal ?_
    refine xc_seq ?_
    refine xc_seq ?_
    refine xc_region ?_
    refine xl_pure rfl rfl rfl (pv_move (v := .bool _) rfl rfl) ?_
    refine xl_nil ?_
    refine xthen_normal ?_
    refine xc_cond_f rfl ?_
    refine xc_region ?_
    refine xl_pure rfl rfl rfl (pv_move (v := .slice _ _ _) rfl rfl) ?_
    refine xl_pure rfl rfl rfl (pv_move (v := .slice _ _ _) rfl rfl) ?_
    refine xl_pure rfl rfl rfl (pv_move (v := .int _ _) rfl rfl) ?_
    refine xl_pure rfl rfl rfl (pv_slice_l rfl rfl (.none _) (.none _) (.some rfl (by omega)) (by omega) (by simp)) ?_
    refine xl_heavy rfl rfl rfl (hv_append_rows (size := 5) (l := [] ++ l.take (bel l k) ++ [k ++ [x]]) (l' := l.drop (bel l k)) rfl rfl hO4_5 rfl (by simp; try omega) (by exact ((hR.ext hX).cut (by omega) hc)) rfl (by decide) (by omega) (by omega) hX.size) ?_
    rintro v7_4 H7_4 ⟨hO7_4, hG7_4⟩
    have m0_0 := m0_0.offT (hO4_5) hG7_4 rfl
    have hX := Own.grown (hO4_5) hX hG7_4 (Nat.le_refl _)
    obtain ⟨a7_4, c7_4, rfl⟩ := hO7_4.val
    have eL : (putR l (k ++ [x])).length = 0 + (bel l k - 0) + 1 + (l.length - bel l k) := by rw [put_new hk hh1_2]; simp; omega
    have hOe : Own H7_4 H.size 52 5 (.slice a7_4 (putR l (k ++ [x])).length c7_4) (putR l (k ++ [x])).length (fr (putR l (k ++ [x]))) := by rw [eL, put_new hk hh1_2]; simpa using hO7_4
    have hle : (putR l (k ++ [x])).length ≤ c7_4 := by rcases own_blk hOe with ⟨h1, h2⟩ | ⟨_, _, _, _, _, h2⟩; omega; exact h2
    refine xl_pure rfl rfl rfl (pv_assign (v := .slice _ _ _) rfl rfl) ?_
    refine xl_nil ?_
    refine xthen_normal ?_
    refine xc_seq ?_
    refine xc_region ?_
    refine xl_pure rfl rfl rfl (pv_move (v := .slice _ _ _) rfl rfl) ?_
    refine xl_pure rfl rfl rfl (pv_move (v := .bool _) rfl rfl) ?_
    refine xl_pure rfl rfl rfl (pv_not rfl rfl) ?_
    refine xl_pure rfl rfl rfl (pv_assign (v := .slice _ _ _) rfl rfl) ?_
    refine xl_pure rfl rfl rfl (pv_assign (v := .bool _) rfl rfl) ?_
    refine xl_nil ?_
    refine xthen_normal ?_
    refine xc_ret ?_
    refine fin_ret (res2 (v := .slice _ _ _) (x := .bool _) rfl rfl rfl) ?_
    first
      | exact ⟨a6_5, c6_5, by rw [eL]; rfl, own_rowsT (wide_put hR.wide (by simp [hk])) hOe, hle, hX⟩
      | exact ⟨a7_4, c7_4, by rw [eL]; rfl, own_rowsT (wide_put hR.wide (by simp [hk])) hOe, hle, hX⟩
  · skip
    refine xl_pure rfl rfl rfl (pv_move (v := .tuple _) rfl rfl) ?_
    refine xl_pure rfl rfl rfl (pv_extract (v := .int _ _) rfl rfl rfl) ?_
    refine xl_pure rfl rfl rfl (pv_extract (v := .bool _) rfl rfl rfl) ?_
    refine xl_pure rfl rfl rfl (pv_assign (v := .int _ _) rfl rfl) ?_
    refine xl_pure rfl rfl rfl (pv_assign (v := .bool _) rfl rfl) ?_
    refine xl_nil ?_
    refine xthen_normal ?_
    refine xc_seq ?_
    refine xc_region ?_
    refine xl_pure rfl rfl rfl (pv_assign (v := .slice _ _ _) rfl rfl) ?_
    refine xl_nil ?_
    refine xthen_normal ?_
    refine xc_seq ?_
    have hbl := bel_le l k
    have hw := hR.wide
    refine xc_region ?_
    refine xl_pure rfl rfl rfl (pv_move (v := .slice _ _ _) rfl rfl) ?_
    refine xl_pure rfl rfl rfl (pv_move (v := .slice _ _ _) rfl rfl) ?_
    refine xl_pure rfl rfl rfl (pv_move (v := .int _ _) rfl rfl) ?_
    refine xl_pure rfl rfl rfl (pv_slice_l rfl rfl (.none _) (.some rfl (by omega)) (.none _) (by omega) (by simp)) ?_
    refine xl_heavy rfl rfl rfl (hv_append_rows (size := 5) (l := []) (l' := l.take (bel l k)) rfl rfl (Own.nil _ H.size 52 5) rfl (by simp; try omega) (by exact (by rw [cutA_0]; exact (hR.ext hX).take (by omega))) rfl (by decide) (by omega) (by omega) hX.size) ?_
    rintro v3_4 H3_4 ⟨hO3_4, hG3_4⟩
    have m0_0 := m0_0.offT ((Own.nil _ H.size 52 5)) hG3_4 rfl
    have hX := Own.grown ((Own.nil _ H.size 52 5)) hX hG3_4 (Nat.le_refl _)
    obtain ⟨a3_4, c3_4, rfl⟩ := hO3_4.val
    refine xl_pure rfl rfl rfl (pv_assign (v := .slice _ _ _) rfl rfl) ?_
    refine xl_nil ?_
    refine xthen_normal ?_
    refine xc_seq ?_
    refine xc_region ?_
    refine xl_pure rfl rfl rfl (pv_move (v := .slice _ _ _) rfl rfl) ?_
    refine xl_light rfl rfl rfl (lv_load (v := .agg _) rfl rfl (ld_ints m0_0 hk)) ?_
    refine xl_pure rfl rfl rfl (pv_move (v := .int _ _) rfl rfl) ?_
    refine xl_pure rfl rfl rfl (pv_build_pair (xs := ints k) (ys := [.int .i64 x]) rfl rfl rfl rfl rfl (by rw [ints_ten hk]; rfl) (by rw [ints_ten hk]; rfl) (by rw [ints_ten hk]; rfl)) ?_
    refine xl_heavy rfl rfl rfl (hv_buildSlice (cs := ints k ++ [.int .i64 x]) rfl rfl (parts1 (by simp [ints, hk])) rfl rfl) ?_
    rintro v4_4 H4_4 ⟨b4_4, rfl, hN4_4⟩
    have m0_0 := m0_0.ext hN4_4.ext
    have hO3_4 := hO3_4.ext hN4_4.ext
    have hX := hX.trans hN4_4.ext
    refine xl_heavy rfl rfl rfl (hv_append_rows (size := 5) (l := [] ++ l.take (bel l k)) (l' := [k ++ [x]]) rfl rfl hO3_4 rfl (by simp; try omega) (by exact (rowsT1 hN4_4.blk (by simp [ints]) (by simp [hk]))) rfl (by decide) (by omega) (by omega) hX.size) ?_
    rintro v4_5 H4_5 ⟨hO4_5, hG4_5⟩
    have m0_0 := m0_0.offT (hO3_4) hG4_5 rfl
    have hX := Own.grown (hO3_4) hX hG4_5 (Nat.le_refl _)
    obtain ⟨a4_5, c4_5, rfl⟩ := hO4_5.val
    refine xl_pure rfl rfl rfl (pv_assign (v := .slice _ _ _) rfl rfl) ?_
    refine xl_nil ?_
    refine xthen_normal ?_
    refine xc_seq ?_
    refine xc_seq ?_
    refine xc_region ?_
    refine xl_pure rfl rfl rfl (pv_move (v := .bool _) rfl rfl) ?_
    refine xl_nil ?_
    refine xthen_normal ?_
    refine xc_cond_t rfl ?_
    have hlt := has_lt hs hR.wide (by decide) hk hh1_2
    refine xc_region ?_
    refine xl_pure rfl rfl rfl (pv_move (v := .slice _ _ _) rfl rfl) ?_
    refine xl_pure rfl rfl rfl (pv_move (v := .slice _ _ _) rfl rfl) ?_
    refine xl_pure rfl rfl rfl (pv_move (v := .int _ _) rfl rfl) ?_
    refine xl_pure rfl rfl rfl (pv_add rfl rfl rfl (fit_i64 (by omega))) ?_
    refine xl_pure rfl rfl rfl (pv_slice_l rfl rfl (.none _) (.none _) (.some rfl (by omega)) (by omega) (by simp)) ?_
    refine xl_heavy rfl rfl rfl (hv_append_rows (size := 5) (l := [] ++ l.take (bel l k) ++ [k ++ [x]]) (l' := l.drop (bel l k + 1)) rfl rfl hO4_5 rfl (by simp; try omega) (by exact ((hR.ext hX).cut (by omega) hc)) rfl (by decide) (by omega) (by omega) hX.size) ?_
    rintro v6_5 H6_5 ⟨hO6_5, hG6_5⟩
    have m0_0 := m0_0.offT (hO4_5) hG6_5 rfl
    have hX := Own.grown (hO4_5) hX hG6_5 (Nat.le_refl _)
    obtain ⟨a6_5, c6_5, rfl⟩ := hO6_5.val
    have eL : (putR l (k ++ [x])).length = 0 + (bel l k - 0) + 1 + (l.length - (bel l k + 1)) := by rw [put_has hk hh1_2, List.drop_drop]; simp; omega
    have hOe : Own H6_5 H.size 52 5 (.slice a6_5 (putR l (k ++ [x])).length c6_5) (putR l (k ++ [x])).length (fr (putR l (k ++ [x]))) := by rw [eL, put_has hk hh1_2, List.drop_drop]; simpa using hO6_5
    have hle : (putR l (k ++ [x])).length ≤ c6_5 := by rcases own_blk hOe with ⟨h1, h2⟩ | ⟨_, _, _, _, _, h2⟩; omega; exact h2
    refine xl_pure rfl rfl rfl (pv_assign (v := .slice _ _ _) rfl rfl) ?_
    refine xl_nil ?_
    refine xthen_normal ?_
    refine xc_seq ?_
    refine xc_region ?_
    refine xl_pure rfl rfl rfl (pv_move (v := .slice _ _ _) rfl rfl) ?_
    refine xl_pure rfl rfl rfl (pv_move (v := .bool _) rfl rfl) ?_
    refine xl_pure rfl rfl rfl (pv_not rfl rfl) ?_
    refine xl_pure rfl rfl rfl (pv_assign (v := .slice _ _ _) rfl rfl) ?_
    refine xl_pure rfl rfl rfl (pv_assign (v := .bool _) rfl rfl) ?_
    refine xl_nil ?_
    refine xthen_normal ?_
    refine xc_ret ?_
    refine fin_ret (res2 (v := .slice _ _ _) (x := .bool _) rfl rfl rfl) ?_
    first
      | exact ⟨a6_5, c6_5, by rw [eL]; rfl, own_rowsT (wide_put hR.wide (by simp [hk])) hOe, hle, hX⟩
      | exact ⟨a7_4, c7_4, by rw [eL]; rfl, own_rowsT (wide_put hR.wide (by simp [hk])) hOe, hle, hX⟩

theorem c29 {O : Outer} {H : Heap} {a : Option Addr} {c : Nat} {l : List (List Int)} (hR : RowsT H 52 5 a l) (hl : l.length < 1099511627776) (k : List Int) (hk : k.length = 4) (hs : Srt l) (hc : l.length ≤ c) :
    FnC Try.prog 29 #[.slice a l.length c, .agg (ints k).toArray] O H (fun v H' => ∃ a' c', v = .tuple #[.slice a' (List.length (delR l k)) c', .bool (hasK l k)] ∧ RowsT H' 52 5 a' (delR l k) ∧ List.length (delR l k) ≤ c' ∧ Ext H H') := by
  refine fn_enter (A := [.slice a l.length c, .agg (ints k).toArray]) Try.func29 rfl rfl ?_
  have hX := Ext.refl H
  refine xc_seq ?_
  refine xc_region ?_
  refine xl_heavy rfl rfl rfl (hv_box rfl rfl) ?_
  rintro v0_0 H0_0 ⟨b0_0, rfl, hN0_0⟩
  have gb0_0 := hX.fresh hN0_0
  have hX := hX.trans hN0_0.ext
  have m0_0 := hN0_0.blk
  refine xl_pure rfl rfl rfl (pv_assign (v := .slice _ _ _) rfl rfl) ?_
  refine xl_pure rfl rfl rfl (pv_assign (v := .bool _) rfl rfl) ?_
  refine xl_nil ?_
  refine xthen_normal ?_
  refine xc_seq ?_
  refine xc_region ?_
  refine xl_pure rfl rfl rfl (pv_move (v := .slice _ _ _) rfl rfl) ?_
  refine xl_light rfl rfl rfl (lv_load (v := .agg _) rfl rfl (ld_ints m0_0 hk)) ?_
  refine xl_heavy rfl rfl rfl (hv_call (g := 30) rfl rfl (c30 (hR.ext hX) hl k hk) rfl) ?_
  rintro v1_2 H1_2 ⟨rfl, hE1_2⟩
  have m0_0 := m0_0.ext hE1_2
  have hX := hX.trans hE1_2
  cases hh1_2 : hasK l k
  · skip
    refine xl_pure rfl rfl rfl (pv_move (v := .tuple _) rfl rfl) ?_
    refine xl_pure rfl rfl rfl (pv_extract (v := .int _ _) rfl rfl rfl) ?_
    refine xl_pure rfl rfl rfl (pv_extract (v := .bool _) rfl rfl rfl) ?_
    refine xl_pure rfl rfl rfl (pv_assign (v := .int _ _) rfl rfl) ?_
    refine xl_pure rfl rfl rfl (pv_assign (v := .bool _) rfl rfl) ?_
    refine xl_nil ?_
    refine xthen_normal ?_
    refine xc_seq ?_
    refine xc_seq ?_
    refine xc_region ?_
    refine xl_pure rfl rfl rfl (pv_move (v := .bool _) rfl rfl) ?_
    refine xl_pure rfl rfl rfl (pv_not rfl rfl) ?_
    refine xl_nil ?_
    refine xthen_normal ?_
    refine xc_cond_t rfl ?_
    refine xc_seq ?_
    refine xc_region ?_
    refine xl_pure rfl rfl rfl (pv_move (v := .slice _ _ _) rfl rfl) ?_
    refine xl_pure rfl rfl rfl (pv_assign (v := .slice _ _ _) rfl rfl) ?_
    refine xl_pure rfl rfl rfl (pv_assign (v := .bool _) rfl rfl) ?_
    refine xl_nil ?_
    refine xthen_normal ?_
    refine xc_ret ?_
    refine xthen_ret ?_
    refine fin_ret (res2 (v := .slice _ _ _) (x := .bool _) rfl rfl rfl) ?_
    exact ⟨a, c, by rw [del_no hh1_2], by rw [del_no hh1_2]; exact hR.ext hX, by rw [del_no hh1_2]; exact hc, hX⟩
  · skip
    refine xl_pure rfl rfl rfl (pv_move (v := .tuple _) rfl rfl) ?_
    refine xl_pure rfl rfl rfl (pv_extract (v := .int _ _) rfl rfl rfl) ?_
    refine xl_pure rfl rfl rfl (pv_extract (v := .bool _) rfl rfl rfl) ?_
    refine xl_pure rfl rfl rfl (pv_assign (v := .int _ _) rfl rfl) ?_
    refine xl_pure rfl rfl rfl (pv_assign (v := .bool _) rfl rfl) ?_
    refine xl_nil ?_
    refine xthen_normal ?_
    refine xc_seq ?_
    refine xc_seq ?_
    refine xc_region ?_
    refine xl_pure rfl rfl rfl (pv_move (v := .bool _) rfl rfl) ?_
    refine xl_pure rfl rfl rfl (pv_not rfl rfl) ?_
    refine xl_nil ?_
    refine xthen_normal ?_
    refine xc_cond_f rfl ?_
    refine xc_skip ?_
    refine xthen_normal ?_
    refine xc_seq ?_
    refine xc_region ?_
    refine xl_pure rfl rfl rfl (pv_assign (v := .slice _ _ _) rfl rfl) ?_
    refine xl_nil ?_
    refine xthen_normal ?_
    refine xc_seq ?_
    have hlt := has_lt hs hR.wide (by decide) hk hh1_2
    refine xc_region ?_
    refine xl_pure rfl rfl rfl (pv_move (v := .slice _ _ _) rfl rfl) ?_
    refine xl_pure rfl rfl rfl (pv_move (v := .slice _ _ _) rfl rfl) ?_
    refine xl_pure rfl rfl rfl (pv_move (v := .int _ _) rfl rfl) ?_
    refine xl_pure rfl rfl rfl (pv_slice_l rfl rfl (.none _) (.some rfl (by omega)) (.none _) (by omega) (by simp)) ?_
    refine xl_heavy rfl rfl rfl (hv_append_rows (size := 5) (l := []) (l' := l.take (bel l k)) rfl rfl (Own.nil _ H.size 52 5) rfl (by simp; try omega) (by exact (by rw [cutA_0]; exact (hR.ext hX).take (by omega))) rfl (by decide) (by omega) (by omega) hX.size) ?_
    rintro v5_4 H5_4 ⟨hO5_4, hG5_4⟩
    have m0_0 := m0_0.offT ((Own.nil _ H.size 52 5)) hG5_4 rfl
    have hX := Own.grown ((Own.nil _ H.size 52 5)) hX hG5_4 (Nat.le_refl _)
    obtain ⟨a5_4, c5_4, rfl⟩ := hO5_4.val
    refine xl_pure rfl rfl rfl (pv_assign (v := .slice _ _ _) rfl rfl) ?_
    refine xl_nil ?_
    refine xthen_normal ?_
    refine xc_seq ?_
    refine xc_region ?_
    refine xl_pure rfl rfl rfl (pv_move (v := .slice _ _ _) rfl rfl) ?_
    refine xl_pure rfl rfl rfl (pv_move (v := .slice _ _ _) rfl rfl) ?_
    refine xl_pure rfl rfl rfl (pv_move (v := .int _ _) rfl rfl) ?_
    refine xl_pure rfl rfl rfl (pv_add rfl rfl rfl (fit_i64 (by omega))) ?_
    refine xl_pure rfl rfl rfl (pv_slice_l rfl rfl (.none _) (.none _) (.some rfl (by omega)) (by omega) (by simp)) ?_
    refine xl_heavy rfl rfl rfl (hv_append_rows (size := 5) (l := [] ++ l.take (bel l k)) (l' := l.drop (bel l k + 1)) rfl rfl hO5_4 rfl (by simp; try omega) (by exact ((hR.ext hX).cut (by omega) hc)) rfl (by decide) (by omega) (by omega) hX.size) ?_
    rintro v6_5 H6_5 ⟨hO6_5, hG6_5⟩
    have m0_0 := m0_0.offT (hO5_4) hG6_5 rfl
    have hX := Own.grown (hO5_4) hX hG6_5 (Nat.le_refl _)
    obtain ⟨a6_5, c6_5, rfl⟩ := hO6_5.val
    have eL : (delR l k).length = 0 + (bel l k - 0) + (l.length - (bel l k + 1)) := by rw [del_has hh1_2]; simp; omega
    have hOe : Own H6_5 H.size 52 5 (.slice a6_5 (delR l k).length c6_5) (delR l k).length (fr (delR l k)) := by rw [eL, del_has hh1_2]; simpa using hO6_5
    have hle : (delR l k).length ≤ c6_5 := by rcases own_blk hOe with ⟨h1, h2⟩ | ⟨_, _, _, _, _, h2⟩; omega; exact h2
    refine xl_pure rfl rfl rfl (pv_assign (v := .slice _ _ _) rfl rfl) ?_
    refine xl_nil ?_
    refine xthen_normal ?_
    refine xc_seq ?_
    refine xc_region ?_
    refine xl_pure rfl rfl rfl (pv_move (v := .slice _ _ _) rfl rfl) ?_
    refine xl_pure rfl rfl rfl (pv_assign (v := .slice _ _ _) rfl rfl) ?_
    refine xl_pure rfl rfl rfl (pv_assign (v := .bool _) rfl rfl) ?_
    refine xl_nil ?_
    refine xthen_normal ?_
    refine xc_ret ?_
    refine fin_ret (res2 (v := .slice _ _ _) (x := .bool _) rfl rfl rfl) ?_
    exact ⟨a6_5, c6_5, by rw [eL]; rfl, own_rowsT (wide_del hR.wide) hOe, hle, hX⟩
end Go.XG
