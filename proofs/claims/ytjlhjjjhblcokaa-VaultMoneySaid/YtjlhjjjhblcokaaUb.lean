/-
  Walks of the seat's functions over the logic XG: each function, what it computes. Printed by a program out of wip/walks.py.
-/
import Derived.Test.YtjlhjjjhblcokaaI
import Derived.Test.YtjlhjjjhblcokaaXs
import Derived.Test.YtjlhjjjhblcokaaTo
import Derived.Test.YtjlhjjjhblcokaaTa
import Derived.Test.YtjlhjjjhblcokaaTb
import Derived.Test.YtjlhjjjhblcokaaKb
import Derived.Test.YtjlhjjjhblcokaaBa
import Derived.Test.YtjlhjjjhblcokaaBb
import Derived.Test.YtjlhjjjhblcokaaBc
import Derived.Test.YtjlhjjjhblcokaaKp
import Derived.Test.YtjlhjjjhblcokaaUa
namespace Go.XG.Pu
open Go.Proofs
set_option maxRecDepth 20000
set_option maxHeartbeats 4000000
theorem c65 {O : Outer} {H : Heap} {a : Option Addr} {c : Nat} {x : List (List Int)} (hx : RowsT H 122 2 a x) (hs : Srt (tb x)) (hl : x.length < 1000000) (o : Int) :
    FnC Try.prog 65 #[.slice a x.length c, .int .i64 o] O H (fun v H' => v = .int .i64 (findA x o) ∧ H = H') := by
  refine fn_enter (A := [.slice a x.length c, .int .i64 o]) Try.func65 rfl rfl ?_
  have hX := Ext.refl H
  refine xc_seq ?_
  refine xc_region ?_
  refine xl_pure rfl rfl rfl (pv_assign (v := .int _ _) rfl rfl) ?_
  refine xl_nil ?_
  refine xthen_normal ?_
  refine xc_seq ?_
  refine xc_seq ?_
  refine xc_region ?_
  refine xl_pure rfl rfl rfl (pv_assign (v := .int _ _) rfl rfl) ?_
  refine xl_nil ?_
  refine xthen_normal ?_
  refine xc_block ?_
  refine xc_loop (τ := Nat) (fun t => [(0, .slice a x.length c), (1, .int .i64 o), (5, .int .i64 (t : Nat))]) (fun t H' => (t ≤ x.length) ∧ (∀ j, j < t → ow (gr x j) ≠ o) ∧ (H = H') ∧ (Ext H H')) (fun t H' => x.length - t) 0 ?_ ?_ ?_
  · exact ⟨rfl, rfl, rfl, trivial⟩
  · skip
    exact ⟨Nat.zero_le _, fun j hj => absurd hj (by omega), rfl, hX⟩
  · intro σ
    clear hX
    rintro i Hl2 ⟨hi, hlo, heq, hX⟩
    replace hi : i ≤ x.length := hi
    replace hlo : ∀ j, j < i → ow (gr x j) ≠ o := hlo
    replace heq : H = Hl2 := heq
    replace hX : Ext H Hl2 := hX
    subst heq
    show XC _ _ _ (upds σ [(0, .slice a x.length c), (1, .int .i64 o), (5, .int .i64 (i : Nat))]) _
    refine xc_seq ?_
    refine xc_seq ?_
    refine xc_region ?_
    refine xl_pure rfl rfl rfl (pv_move (v := .int _ _) rfl rfl) ?_
    refine xl_pure rfl rfl rfl (pv_move (v := .slice _ _ _) rfl rfl) ?_
    refine xl_pure rfl rfl rfl (pv_len_l rfl rfl) ?_
    refine xl_dec rfl rfl rfl (pv_lss rfl rfl rfl) (fun h2_3 => ?_) (fun h2_3 => ?_)
    · skip
      refine xl_nil ?_
      refine xthen_normal ?_
      refine xc_cond_t rfl ?_
      refine xc_skip ?_
      refine xthen_normal ?_
      refine xc_seq ?_
      refine xc_block ?_
      refine xc_seq ?_
      obtain ⟨ba, off, hae⟩ := hx.at
      refine xc_region ?_
      refine xl_pure rfl rfl rfl (pv_move (v := .slice _ _ _) rfl rfl) ?_
      refine xl_pure rfl rfl rfl (pv_move (v := .int _ _) rfl rfl) ?_
      refine xl_pure rfl rfl rfl (pv_indexAddr_l rfl (sl_eq (hae (by omega)).1) rfl (by omega)) ?_
      refine xl_pure rfl rfl rfl (pv_fieldAddr rfl rfl) ?_
      refine xl_light rfl rfl rfl (lv_load (v := .int _ _) rfl rfl (by exact ld_num (j := 0) (hae (by omega)).2 hx.wide (by omega) (by decide))) ?_
      refine xl_pure rfl rfl rfl (pv_move (v := .int _ _) rfl rfl) ?_
      refine xl_dec rfl rfl rfl (pv_eql rfl rfl rfl) (fun h4_6 => ?_) (fun h4_6 => ?_)
      · skip
        refine xl_nil ?_
        refine xthen_normal ?_
        refine xc_cond_t rfl ?_
        refine xc_seq ?_
        refine xc_region ?_
        refine xl_pure rfl rfl rfl (pv_move (v := .int _ _) rfl rfl) ?_
        refine xl_pure rfl rfl rfl (pv_assign (v := .int _ _) rfl rfl) ?_
        refine xl_nil ?_
        refine xthen_normal ?_
        refine xc_ret ?_
        refine xblock_ret ?_
        refine xthen_ret ?_
        refine xthen_ret ?_
        refine xblock_ret ?_
        refine xthen_ret ?_
        refine fin_ret (res1 (v := .int _ _) rfl rfl) ?_
        exact ⟨iv (find_at hs (by omega) h4_6).symm, rfl⟩
      · skip
        refine xl_nil ?_
        refine xthen_normal ?_
        refine xc_cond_f rfl ?_
        refine xc_skip ?_
        refine xblock_normal ?_
        refine xthen_normal ?_
        refine xc_region ?_
        refine xl_pure rfl rfl rfl (pv_move (v := .int _ _) rfl rfl) ?_
        refine xl_pure rfl rfl rfl (pv_add rfl rfl rfl (fit_i64 (by omega))) ?_
        refine xl_pure rfl rfl rfl (pv_assign (v := .int _ _) rfl rfl) ?_
        refine xl_nil ?_
        refine xthen_normal ?_
        exact ⟨i + 1, ⟨rfl, rfl, rfl, trivial⟩, ⟨by (try simp only); omega, all_next hlo h4_6, rfl, hX⟩, by (try simp only); omega⟩
    · skip
      refine xl_nil ?_
      refine xthen_normal ?_
      refine xc_cond_f rfl ?_
      refine xc_exit ?_
      refine xthen_exit ?_
      refine xthen_exit ?_
      refine xblock_same ?_
      refine xthen_normal ?_
      refine xc_seq ?_
      refine xc_region ?_
      refine xl_pure rfl rfl rfl (pv_assign (v := .int _ _) rfl rfl) ?_
      refine xl_nil ?_
      refine xthen_normal ?_
      refine xc_ret ?_
      refine fin_ret (res1 (v := .int _ _) rfl rfl) ?_
      exact ⟨iv (find_no hs (fun j hj => hlo j (by omega))).symm, rfl⟩

theorem c36 {O : Outer} {H : Heap} {a : Option Addr} {c : Nat} {x : List (List Int)} (hx : RowsT H 122 2 a x) (hg : Goo x) (hl : x.length < 1000000) :
    FnC Try.prog 36 #[.slice a x.length c] O H (fun v H' => v = .int .i64 (tot x) ∧ H = H') := by
  refine fn_enter (A := [.slice a x.length c]) Try.func36 rfl rfl ?_
  have hX := Ext.refl H
  refine xc_seq ?_
  refine xc_region ?_
  refine xl_pure rfl rfl rfl (pv_assign (v := .int _ _) rfl rfl) ?_
  refine xl_nil ?_
  refine xthen_normal ?_
  refine xc_seq ?_
  refine xc_region ?_
  refine xl_pure rfl rfl rfl (pv_assign (v := .int _ _) rfl rfl) ?_
  refine xl_nil ?_
  refine xthen_normal ?_
  refine xc_seq ?_
  refine xc_seq ?_
  refine xc_region ?_
  refine xl_pure rfl rfl rfl (pv_assign (v := .int _ _) rfl rfl) ?_
  refine xl_nil ?_
  refine xthen_normal ?_
  refine xc_block ?_
  refine xc_loop (τ := Nat) (fun t => [(0, .slice a x.length c), (3, .int .i64 (tot (x.take t))), (4, .int .i64 (t : Nat))]) (fun t H' => (t ≤ x.length) ∧ (H = H') ∧ (Ext H H')) (fun t H' => x.length - t) 0 ?_ ?_ ?_
  · exact ⟨rfl, rfl, rfl, trivial⟩
  · skip
    exact ⟨Nat.zero_le _, rfl, hX⟩
  · intro σ
    clear hX
    rintro i Hl3 ⟨hi, heq, hX⟩
    replace hi : i ≤ x.length := hi
    replace heq : H = Hl3 := heq
    replace hX : Ext H Hl3 := hX
    subst heq
    show XC _ _ _ (upds σ [(0, .slice a x.length c), (3, .int .i64 (tot (x.take i))), (4, .int .i64 (i : Nat))]) _
    refine xc_seq ?_
    refine xc_seq ?_
    refine xc_region ?_
    refine xl_pure rfl rfl rfl (pv_move (v := .int _ _) rfl rfl) ?_
    refine xl_pure rfl rfl rfl (pv_move (v := .slice _ _ _) rfl rfl) ?_
    refine xl_pure rfl rfl rfl (pv_len_l rfl rfl) ?_
    refine xl_dec rfl rfl rfl (pv_lss rfl rfl rfl) (fun h3_3 => ?_) (fun h3_3 => ?_)
    · skip
      refine xl_nil ?_
      refine xthen_normal ?_
      refine xc_cond_t rfl ?_
      refine xc_skip ?_
      refine xthen_normal ?_
      refine xc_seq ?_
      refine xc_block ?_
      obtain ⟨ba, off, hae⟩ := hx.at
      have ht1 : tot (x.take (i + 1)) = tot (x.take i) + (gr x (i : Int).toNat).getD 1 0 := tot_take (x := x) (i := i) (by omega)
      have ht2 := tot_split (x := x) (i := i + 1)
      have ht3 := tot_nonneg (x := x.take i) (fun r hr => hg.pos r (List.mem_of_mem_take hr))
      have ht4 := tot_nonneg (x := x.drop (i + 1)) (fun r hr => hg.pos r (List.mem_of_mem_drop hr))
      have ht5 : 0 ≤ (gr x (i : Int).toNat).getD 1 0 := hg.pos _ (gr_mem (show i < x.length by omega))
      have hmx := hg.max
      refine xc_region ?_
      refine xl_pure rfl rfl rfl (pv_move (v := .int _ _) rfl rfl) ?_
      refine xl_pure rfl rfl rfl (pv_move (v := .slice _ _ _) rfl rfl) ?_
      refine xl_pure rfl rfl rfl (pv_move (v := .int _ _) rfl rfl) ?_
      refine xl_pure rfl rfl rfl (pv_indexAddr_l rfl (sl_eq (hae (by omega)).1) rfl (by omega)) ?_
      refine xl_pure rfl rfl rfl (pv_fieldAddr rfl rfl) ?_
      refine xl_light rfl rfl rfl (lv_load (v := .int _ _) rfl rfl (by exact ld_num (j := 1) (hae (by omega)).2 hx.wide (by omega) (by decide))) ?_
      refine xl_pure rfl rfl rfl (pv_add rfl rfl rfl (fit_i64 (by omega))) ?_
      refine xl_pure rfl rfl rfl (pv_assign (v := .int _ _) rfl rfl) ?_
      refine xl_nil ?_
      refine xblock_normal ?_
      refine xthen_normal ?_
      refine xc_region ?_
      refine xl_pure rfl rfl rfl (pv_move (v := .int _ _) rfl rfl) ?_
      refine xl_pure rfl rfl rfl (pv_add rfl rfl rfl (fit_i64 (by omega))) ?_
      refine xl_pure rfl rfl rfl (pv_assign (v := .int _ _) rfl rfl) ?_
      refine xl_nil ?_
      refine xthen_normal ?_
      exact ⟨i + 1, ⟨rfl, iv (tot_take (by omega)).symm, rfl, trivial⟩, ⟨by (try simp only); omega, rfl, hX⟩, by (try simp only); omega⟩
    · skip
      refine xl_nil ?_
      refine xthen_normal ?_
      refine xc_cond_f rfl ?_
      refine xc_exit ?_
      refine xthen_exit ?_
      refine xthen_exit ?_
      refine xblock_same ?_
      refine xthen_normal ?_
      refine xc_seq ?_
      refine xc_region ?_
      refine xl_pure rfl rfl rfl (pv_move (v := .int _ _) rfl rfl) ?_
      refine xl_pure rfl rfl rfl (pv_assign (v := .int _ _) rfl rfl) ?_
      refine xl_nil ?_
      refine xthen_normal ?_
      refine xc_ret ?_
      refine fin_ret (res1 (v := .int _ _) rfl rfl) ?_
      exact ⟨iv (by rw [List.take_of_length_le (by omega)]), rfl⟩

theorem c66 {O : Outer} {H : Heap} {a : Option Addr} {c : Nat} {x : List (List Int)} (hx : RowsT H 122 2 a x) (hs : Srt (tb x)) (hl : x.length < 1000000) (hc : x.length ≤ c) (o m : Int) (hh : hasK (tb x) [o, 0, 0, 0] = false) :
    FnC Try.prog 66 #[.slice a x.length c, .agg #[.int .i64 o, .int .i64 m]] O H (fun v H' => ∃ a' c', v = .slice a' (putA x o m).length c' ∧ RowsT H' 122 2 a' (putA x o m) ∧ (putA x o m).length ≤ c' ∧ Ext H H') := by
  refine fn_enter (A := [.slice a x.length c, .agg #[.int .i64 o, .int .i64 m]]) Try.func66 rfl rfl ?_
  have hX := Ext.refl H
  refine xc_seq ?_
  refine xc_region ?_
  refine xl_heavy rfl rfl rfl (hv_box rfl rfl) ?_
  rintro v0_0 H0_0 ⟨b0_0, rfl, hN0_0⟩
  have gb0_0 := hX.fresh hN0_0
  have hX := hX.trans hN0_0.ext
  have m0_0 := hN0_0.blk
  refine xl_pure rfl rfl rfl (pv_assign (v := .slice _ _ _) rfl rfl) ?_
  refine xl_nil ?_
  refine xthen_normal ?_
  refine xc_seq ?_
  refine xc_region ?_
  refine xl_pure rfl rfl rfl (pv_assign (v := .int _ _) rfl rfl) ?_
  refine xl_nil ?_
  refine xthen_normal ?_
  refine xc_seq ?_
  refine xc_block ?_
  refine xc_loop (τ := Nat) (fun t => [(0, .slice a x.length c), (3, .pointer (some ⟨b0_0, 0, none⟩)), (5, .int .i64 (t : Nat))]) (fun t H' => (t ≤ x.length) ∧ (∀ j, j < t → ow (gr x j) < o) ∧ (Blk H' b0_0 [.int .i64 o, .int .i64 m] 122) ∧ (Ext H H')) (fun t H' => x.length - t) 0 ?_ ?_ ?_
  · exact ⟨rfl, rfl, rfl, trivial⟩
  · skip
    exact ⟨Nat.zero_le _, fun j hj => absurd hj (by omega), m0_0, hX⟩
  · intro σ
    clear hX m0_0
    rintro k Hl2 ⟨hk, hlo, m0_0, hX⟩
    replace hk : k ≤ x.length := hk
    replace hlo : ∀ j, j < k → ow (gr x j) < o := hlo
    replace m0_0 : Blk Hl2 b0_0 [.int .i64 o, .int .i64 m] 122 := m0_0
    replace hX : Ext H Hl2 := hX
    obtain ⟨ba, off, hae⟩ := (hx.ext hX).at
    show XC _ _ _ (upds σ [(0, .slice a x.length c), (3, .pointer (some ⟨b0_0, 0, none⟩)), (5, .int .i64 (k : Nat))]) _
    refine xc_seq ?_
    refine xc_seq ?_
    refine xp_start rfl (by repeat (first | with_reducible exact np_fin | with_reducible exact np_ret | with_reducible refine np_then ?_ | with_reducible refine np_block ?_)) (by kernel_rfl) ?_
    refine xp_pure (i := 0) rfl (by kernel_rfl) (by kernel_rfl) rfl rfl rfl (pv_move (v := .int _ _) rfl rfl) ?_
    refine xp_pure (i := 1) rfl (by kernel_rfl) (by kernel_rfl) rfl rfl rfl (pv_move (v := .slice _ _ _) rfl rfl) ?_
    refine xp_pure (i := 2) rfl (by kernel_rfl) (by kernel_rfl) rfl rfl rfl (pv_len_l rfl rfl) ?_
    refine xp_dec (i := 3) rfl (by kernel_rfl) (by kernel_rfl) rfl rfl rfl (pv_lss rfl rfl rfl) (fun h2_3 => ?_) (fun h2_3 => ?_)
    · skip
      refine xp_pure (i := 4) rfl (by kernel_rfl) (by kernel_rfl) rfl rfl rfl (pv_move (v := .bool _) rfl rfl) ?_
      refine xp_pure (i := 5) rfl (by kernel_rfl) (by kernel_rfl) rfl rfl rfl (pv_move (v := .slice _ _ _) rfl rfl) ?_
      refine xp_pure (i := 6) rfl (by kernel_rfl) (by kernel_rfl) rfl rfl rfl (pv_move (v := .int _ _) rfl rfl) ?_
      refine xp_pure (i := 7) rfl (by kernel_rfl) (by kernel_rfl) rfl rfl rfl (pv_indexAddr_l rfl (sl_eq (hae (by omega)).1) rfl (by omega)) ?_
      refine xp_pure (i := 8) rfl (by kernel_rfl) (by kernel_rfl) rfl rfl rfl (pv_fieldAddr rfl rfl) ?_
      refine xp_light (i := 9) rfl (by kernel_rfl) (by kernel_rfl) rfl rfl rfl (lv_load (v := .int _ _) rfl rfl (by exact ld_num (j := 0) (hae (by omega)).2 hx.wide (by omega) (by decide))) ?_
      refine xp_pure (i := 10) rfl (by kernel_rfl) (by kernel_rfl) rfl rfl rfl (pv_fieldAddr rfl rfl) ?_
      refine xp_light (i := 11) rfl (by kernel_rfl) (by kernel_rfl) rfl rfl rfl (lv_load (v := .int _ _) rfl rfl (ld_blk m0_0 rfl)) ?_
      refine xp_dec (i := 12) rfl (by kernel_rfl) (by kernel_rfl) rfl rfl rfl (pv_lss rfl rfl rfl) (fun h2_12 => ?_) (fun h2_12 => ?_)
      · skip
        refine xp_pure (i := 13) rfl (by kernel_rfl) (by kernel_rfl) rfl rfl rfl (pv_pick_t (v := .bool _) rfl rfl rfl) ?_
        refine xp_done (by kernel_rfl) ?_
        refine xthen_normal ?_
        refine xc_cond_t rfl ?_
        refine xc_skip ?_
        refine xthen_normal ?_
        refine xc_block ?_
        refine xc_region ?_
        refine xl_pure rfl rfl rfl (pv_move (v := .int _ _) rfl rfl) ?_
        refine xl_pure rfl rfl rfl (pv_add rfl rfl rfl (fit_i64 (by omega))) ?_
        refine xl_pure rfl rfl rfl (pv_assign (v := .int _ _) rfl rfl) ?_
        refine xl_nil ?_
        refine xblock_normal ?_
        refine xthen_normal ?_
        exact ⟨k + 1, ⟨rfl, rfl, rfl, trivial⟩, ⟨by (try simp only); omega, all_next hlo h2_12, m0_0, hX⟩, by (try simp only); omega⟩
      · skip
        refine xp_pure (i := 13) rfl (by kernel_rfl) (by kernel_rfl) rfl rfl rfl (pv_pick_t (v := .bool _) rfl rfl rfl) ?_
        refine xp_done (by kernel_rfl) ?_
        refine xthen_normal ?_
        refine xc_cond_f rfl ?_
        refine xc_exit ?_
        refine xthen_exit ?_
        refine xthen_exit ?_
        refine xblock_same ?_
        refine xthen_normal ?_
        refine xc_seq ?_
        have hbk : bel (tb x) [o, 0, 0, 0] = k := bel_at hs (by omega) hlo (fun hlt => by first | exact h2_12 | exact absurd hlt (by omega))
        have hw := hx.wide
        refine xc_region ?_
        refine xl_pure rfl rfl rfl (pv_assign (v := .slice _ _ _) rfl rfl) ?_
        refine xl_nil ?_
        refine xthen_normal ?_
        refine xc_seq ?_
        refine xc_region ?_
        refine xl_pure rfl rfl rfl (pv_move (v := .slice _ _ _) rfl rfl) ?_
        refine xl_pure rfl rfl rfl (pv_move (v := .slice _ _ _) rfl rfl) ?_
        refine xl_pure rfl rfl rfl (pv_move (v := .int _ _) rfl rfl) ?_
        refine xl_pure rfl rfl rfl (pv_slice_l rfl rfl (.none _) (.some rfl (by omega)) (.none _) (by omega) (by simp)) ?_
        refine xl_heavy rfl rfl rfl (hv_append_rows (size := 2) (l := []) (l' := x.take k) rfl rfl (Own.nil _ H.size 122 2) rfl (by simp; try omega) (by exact (by rw [cutA_0]; exact (hx.ext hX).take (by omega))) rfl (by decide) (by omega) (by omega) hX.size) ?_
        rintro v5_4 H5_4 ⟨hO5_4, hG5_4⟩
        have m0_0 := m0_0.offA hG5_4 Own.apartNil
        have hX := Own.grown ((Own.nil _ H.size 122 2)) hX hG5_4 (Nat.le_refl _)
        obtain ⟨a5_4, c5_4, rfl⟩ := hO5_4.val
        refine xl_pure rfl rfl rfl (pv_assign (v := .slice _ _ _) rfl rfl) ?_
        refine xl_nil ?_
        refine xthen_normal ?_
        refine xc_seq ?_
        refine xc_region ?_
        refine xl_pure rfl rfl rfl (pv_move (v := .slice _ _ _) rfl rfl) ?_
        refine xl_light rfl rfl rfl (lv_load (v := .agg _) rfl rfl (ld_blk_a m0_0 rfl rfl)) ?_
        refine xl_heavy rfl rfl rfl (hv_buildSlice (cs := [.int .i64 o, .int .i64 m]) rfl rfl rfl rfl rfl) ?_
        rintro v6_2 H6_2 ⟨b6_2, rfl, hN6_2⟩
        have m0_0 := m0_0.ext hN6_2.ext
        have hO5_4 := hO5_4.ext hN6_2.ext
        have hX := hX.trans hN6_2.ext
        refine xl_heavy rfl rfl rfl (hv_append_rows (size := 2) (l := [] ++ x.take k) (l' := [[o, m]]) rfl rfl hO5_4 rfl (by simp; try omega) (by exact (rowsT1 hN6_2.blk rfl rfl)) rfl (by decide) (by omega) (by omega) hX.size) ?_
        rintro v6_3 H6_3 ⟨hO6_3, hG6_3⟩
        have hX := Own.grown (hO5_4) hX hG6_3 (Nat.le_refl _)
        obtain ⟨a6_3, c6_3, rfl⟩ := hO6_3.val
        refine xl_pure rfl rfl rfl (pv_assign (v := .slice _ _ _) rfl rfl) ?_
        refine xl_nil ?_
        refine xthen_normal ?_
        refine xc_seq ?_
        refine xc_region ?_
        refine xl_pure rfl rfl rfl (pv_move (v := .slice _ _ _) rfl rfl) ?_
        refine xl_pure rfl rfl rfl (pv_move (v := .slice _ _ _) rfl rfl) ?_
        refine xl_pure rfl rfl rfl (pv_move (v := .int _ _) rfl rfl) ?_
        refine xl_pure rfl rfl rfl (pv_slice_l rfl rfl (.none _) (.none _) (.some rfl (by omega)) (by omega) (by simp)) ?_
        refine xl_heavy rfl rfl rfl (hv_append_rows (size := 2) (l := [] ++ x.take k ++ [[o, m]]) (l' := x.drop k) rfl rfl hO6_3 rfl (by simp; try omega) (by exact ((hx.ext hX).cut (by omega) hc)) rfl (by decide) (by omega) (by omega) hX.size) ?_
        rintro v7_4 H7_4 ⟨hO7_4, hG7_4⟩
        have hX := Own.grown (hO6_3) hX hG7_4 (Nat.le_refl _)
        obtain ⟨a7_4, c7_4, rfl⟩ := hO7_4.val
        have eL : (putA x o m).length = 0 + (k - 0) + 1 + (x.length - k) := by rw [put_new2 hh, hbk]; simp; omega
        have hOe : Own H7_4 H.size 122 2 (.slice a7_4 (putA x o m).length c7_4) (putA x o m).length (fr (putA x o m)) := by rw [eL, put_new2 hh, hbk]; simpa using hO7_4
        have hle : (putA x o m).length ≤ c7_4 := by rcases own_blk hOe with ⟨h1, h2⟩ | ⟨_, _, _, _, _, h2⟩; omega; exact h2
        refine xl_pure rfl rfl rfl (pv_assign (v := .slice _ _ _) rfl rfl) ?_
        refine xl_nil ?_
        refine xthen_normal ?_
        refine xc_seq ?_
        refine xc_region ?_
        refine xl_pure rfl rfl rfl (pv_move (v := .slice _ _ _) rfl rfl) ?_
        refine xl_pure rfl rfl rfl (pv_assign (v := .slice _ _ _) rfl rfl) ?_
        refine xl_nil ?_
        refine xthen_normal ?_
        refine xc_ret ?_
        refine fin_ret (res1 (v := .slice _ _ _) rfl rfl) ?_
        exact ⟨a7_4, c7_4, by rw [eL]; rfl, own_rowsT (wide_putA hw) hOe, hle, hX⟩
    · skip
      refine xp_pure (i := 4) rfl (by kernel_rfl) (by kernel_rfl) rfl rfl rfl (pv_move (v := .bool _) rfl rfl) ?_
      refine xp_skip (i := 5) rfl (by kernel_rfl) (by kernel_rfl) rfl rfl rfl ?_
      refine xp_skip (i := 6) rfl (by kernel_rfl) (by kernel_rfl) rfl rfl rfl ?_
      refine xp_skip (i := 7) rfl (by kernel_rfl) (by kernel_rfl) rfl rfl rfl ?_
      refine xp_skip (i := 8) rfl (by kernel_rfl) (by kernel_rfl) rfl rfl rfl ?_
      refine xp_skip (i := 9) rfl (by kernel_rfl) (by kernel_rfl) rfl rfl rfl ?_
      refine xp_skip (i := 10) rfl (by kernel_rfl) (by kernel_rfl) rfl rfl rfl ?_
      refine xp_skip (i := 11) rfl (by kernel_rfl) (by kernel_rfl) rfl rfl rfl ?_
      refine xp_skip (i := 12) rfl (by kernel_rfl) (by kernel_rfl) rfl rfl rfl ?_
      refine xp_pure (i := 13) rfl (by kernel_rfl) (by kernel_rfl) rfl rfl rfl (pv_pick_f (v := .bool _) rfl rfl rfl) ?_
      refine xp_done (by kernel_rfl) ?_
      refine xthen_normal ?_
      refine xc_cond_f rfl ?_
      refine xc_exit ?_
      refine xthen_exit ?_
      refine xthen_exit ?_
      refine xblock_same ?_
      refine xthen_normal ?_
      refine xc_seq ?_
      have hbk : bel (tb x) [o, 0, 0, 0] = k := bel_at hs (by omega) hlo (fun hlt => by first | exact h2_12 | exact absurd hlt (by omega))
      have hw := hx.wide
      refine xc_region ?_
      refine xl_pure rfl rfl rfl (pv_assign (v := .slice _ _ _) rfl rfl) ?_
      refine xl_nil ?_
      refine xthen_normal ?_
      refine xc_seq ?_
      refine xc_region ?_
      refine xl_pure rfl rfl rfl (pv_move (v := .slice _ _ _) rfl rfl) ?_
      refine xl_pure rfl rfl rfl (pv_move (v := .slice _ _ _) rfl rfl) ?_
      refine xl_pure rfl rfl rfl (pv_move (v := .int _ _) rfl rfl) ?_
      refine xl_pure rfl rfl rfl (pv_slice_l rfl rfl (.none _) (.some rfl (by omega)) (.none _) (by omega) (by simp)) ?_
      refine xl_heavy rfl rfl rfl (hv_append_rows (size := 2) (l := []) (l' := x.take k) rfl rfl (Own.nil _ H.size 122 2) rfl (by simp; try omega) (by exact (by rw [cutA_0]; exact (hx.ext hX).take (by omega))) rfl (by decide) (by omega) (by omega) hX.size) ?_
      rintro v5_4 H5_4 ⟨hO5_4, hG5_4⟩
      have m0_0 := m0_0.offA hG5_4 Own.apartNil
      have hX := Own.grown ((Own.nil _ H.size 122 2)) hX hG5_4 (Nat.le_refl _)
      obtain ⟨a5_4, c5_4, rfl⟩ := hO5_4.val
      refine xl_pure rfl rfl rfl (pv_assign (v := .slice _ _ _) rfl rfl) ?_
      refine xl_nil ?_
      refine xthen_normal ?_
      refine xc_seq ?_
      refine xc_region ?_
      refine xl_pure rfl rfl rfl (pv_move (v := .slice _ _ _) rfl rfl) ?_
      refine xl_light rfl rfl rfl (lv_load (v := .agg _) rfl rfl (ld_blk_a m0_0 rfl rfl)) ?_
      refine xl_heavy rfl rfl rfl (hv_buildSlice (cs := [.int .i64 o, .int .i64 m]) rfl rfl rfl rfl rfl) ?_
      rintro v6_2 H6_2 ⟨b6_2, rfl, hN6_2⟩
      have m0_0 := m0_0.ext hN6_2.ext
      have hO5_4 := hO5_4.ext hN6_2.ext
      have hX := hX.trans hN6_2.ext
      refine xl_heavy rfl rfl rfl (hv_append_rows (size := 2) (l := [] ++ x.take k) (l' := [[o, m]]) rfl rfl hO5_4 rfl (by simp; try omega) (by exact (rowsT1 hN6_2.blk rfl rfl)) rfl (by decide) (by omega) (by omega) hX.size) ?_
      rintro v6_3 H6_3 ⟨hO6_3, hG6_3⟩
      have hX := Own.grown (hO5_4) hX hG6_3 (Nat.le_refl _)
      obtain ⟨a6_3, c6_3, rfl⟩ := hO6_3.val
      refine xl_pure rfl rfl rfl (pv_assign (v := .slice _ _ _) rfl rfl) ?_
      refine xl_nil ?_
      refine xthen_normal ?_
      refine xc_seq ?_
      refine xc_region ?_
      refine xl_pure rfl rfl rfl (pv_move (v := .slice _ _ _) rfl rfl) ?_
      refine xl_pure rfl rfl rfl (pv_move (v := .slice _ _ _) rfl rfl) ?_
      refine xl_pure rfl rfl rfl (pv_move (v := .int _ _) rfl rfl) ?_
      refine xl_pure rfl rfl rfl (pv_slice_l rfl rfl (.none _) (.none _) (.some rfl (by omega)) (by omega) (by simp)) ?_
      refine xl_heavy rfl rfl rfl (hv_append_rows (size := 2) (l := [] ++ x.take k ++ [[o, m]]) (l' := x.drop k) rfl rfl hO6_3 rfl (by simp; try omega) (by exact ((hx.ext hX).cut (by omega) hc)) rfl (by decide) (by omega) (by omega) hX.size) ?_
      rintro v7_4 H7_4 ⟨hO7_4, hG7_4⟩
      have hX := Own.grown (hO6_3) hX hG7_4 (Nat.le_refl _)
      obtain ⟨a7_4, c7_4, rfl⟩ := hO7_4.val
      have eL : (putA x o m).length = 0 + (k - 0) + 1 + (x.length - k) := by rw [put_new2 hh, hbk]; simp; omega
      have hOe : Own H7_4 H.size 122 2 (.slice a7_4 (putA x o m).length c7_4) (putA x o m).length (fr (putA x o m)) := by rw [eL, put_new2 hh, hbk]; simpa using hO7_4
      have hle : (putA x o m).length ≤ c7_4 := by rcases own_blk hOe with ⟨h1, h2⟩ | ⟨_, _, _, _, _, h2⟩; omega; exact h2
      refine xl_pure rfl rfl rfl (pv_assign (v := .slice _ _ _) rfl rfl) ?_
      refine xl_nil ?_
      refine xthen_normal ?_
      refine xc_seq ?_
      refine xc_region ?_
      refine xl_pure rfl rfl rfl (pv_move (v := .slice _ _ _) rfl rfl) ?_
      refine xl_pure rfl rfl rfl (pv_assign (v := .slice _ _ _) rfl rfl) ?_
      refine xl_nil ?_
      refine xthen_normal ?_
      refine xc_ret ?_
      refine fin_ret (res1 (v := .slice _ _ _) rfl rfl) ?_
      exact ⟨a7_4, c7_4, by rw [eL]; rfl, own_rowsT (wide_putA hw) hOe, hle, hX⟩

theorem c66r {O : Outer} {H : Heap} {a : Option Addr} {c : Nat} {x : List (List Int)} (hx : RowsT H 122 2 a x) (hs : Srt (tb x)) (hl : x.length < 1000000) (hc : x.length ≤ c) (r : List Int) (hr : r.length = 2) (hh : hasK (tb x) [ow r, 0, 0, 0] = false) :
    FnC Try.prog 66 #[.slice a x.length c, .agg (ints r).toArray] O H (fun v H' => ∃ a' c', v = .slice a' (putA x (ow r) (mo r)).length c' ∧ RowsT H' 122 2 a' (putA x (ow r) (mo r)) ∧ (putA x (ow r) (mo r)).length ≤ c' ∧ Ext H H') := by
  have e := row2 hr
  have := c66 (O := O) hx hs hl hc (ow r) (mo r) hh
  have e2 : Value.agg (ints r).toArray = .agg #[.int .i64 (ow r), .int .i64 (mo r)] := congrArg (fun s => Value.agg (ints s).toArray) e.symm
  rw [e2]; exact this

theorem c94 {O : Outer} {H : Heap} {a : Option Addr} {c : Nat} {x : List (List Int)} (hx : RowsT H 122 2 a x) (hs : Srt (tb x)) (hl : x.length < 1000000) (hc : x.length ≤ c) (o m : Int) (hh : hasK (tb x) [o, 0, 0, 0] = true) :
    FnC Try.prog 94 #[.slice a x.length c, .int .i64 (bel (tb x) [o, 0, 0, 0] : Nat), .int .i64 m] O H (fun v H' => ∃ a' c', v = .slice a' (putA x o m).length c' ∧ RowsT H' 122 2 a' (putA x o m) ∧ (putA x o m).length ≤ c' ∧ Ext H H') := by
  obtain ⟨hb1, hb2⟩ := (has_at hs).1 hh
  have hw := hx.wide
  refine fn_enter (A := [.slice a x.length c, .int .i64 (bel (tb x) [o, 0, 0, 0] : Nat), .int .i64 m]) Try.func94 rfl rfl ?_
  have hX := Ext.refl H
  refine xc_seq ?_
  refine xc_region ?_
  refine xl_pure rfl rfl rfl (pv_assign (v := .slice _ _ _) rfl rfl) ?_
  refine xl_nil ?_
  refine xthen_normal ?_
  refine xc_seq ?_
  refine xc_region ?_
  refine xl_pure rfl rfl rfl (pv_assign (v := .slice _ _ _) rfl rfl) ?_
  refine xl_nil ?_
  refine xthen_normal ?_
  refine xc_seq ?_
  refine xc_region ?_
  refine xl_pure rfl rfl rfl (pv_move (v := .slice _ _ _) rfl rfl) ?_
  refine xl_pure rfl rfl rfl (pv_move (v := .slice _ _ _) rfl rfl) ?_
  refine xl_pure rfl rfl rfl (pv_move (v := .int _ _) rfl rfl) ?_
  refine xl_pure rfl rfl rfl (pv_slice_l rfl rfl (.none _) (.some rfl (by omega)) (.none _) (by omega) (by simp)) ?_
  refine xl_heavy rfl rfl rfl (hv_append_rows (size := 2) (l := []) (l' := x.take (bel (tb x) [o, 0, 0, 0])) rfl rfl (Own.nil _ H.size 122 2) rfl (by simp; try omega) (by exact (by rw [cutA_0]; exact (hx.ext hX).take (by omega))) rfl (by decide) (by omega) (by omega) hX.size) ?_
  rintro v2_4 H2_4 ⟨hO2_4, hG2_4⟩
  have hX := Own.grown ((Own.nil _ H.size 122 2)) hX hG2_4 (Nat.le_refl _)
  obtain ⟨a2_4, c2_4, rfl⟩ := hO2_4.val
  refine xl_pure rfl rfl rfl (pv_assign (v := .slice _ _ _) rfl rfl) ?_
  refine xl_nil ?_
  refine xthen_normal ?_
  refine xc_seq ?_
  obtain ⟨ba, off, hae⟩ := (hx.ext hX).at
  refine xc_region ?_
  refine xl_pure rfl rfl rfl (pv_move (v := .slice _ _ _) rfl rfl) ?_
  refine xl_pure rfl rfl rfl (pv_move (v := .slice _ _ _) rfl rfl) ?_
  refine xl_pure rfl rfl rfl (pv_move (v := .int _ _) rfl rfl) ?_
  refine xl_pure rfl rfl rfl (pv_indexAddr_l rfl (sl_eq (hae (by omega)).1) rfl (by omega)) ?_
  refine xl_pure rfl rfl rfl (pv_fieldAddr rfl rfl) ?_
  refine xl_light rfl rfl rfl (lv_load (v := .int _ _) rfl rfl (by exact ld_num (j := 0) (hae (by omega)).2 hx.wide (by omega) (by decide))) ?_
  refine xl_pure rfl rfl rfl (pv_move (v := .int _ _) rfl rfl) ?_
  refine xl_pure rfl rfl rfl (pv_build_s (cs := [.int _ _, .int _ _]) rfl rfl rfl) ?_
  refine xl_heavy rfl rfl rfl (hv_buildSlice (cs := [.int .i64 (ow (gr x (bel (tb x) [o, 0, 0, 0]))), .int .i64 m]) rfl rfl rfl rfl rfl) ?_
  rintro v3_8 H3_8 ⟨b3_8, rfl, hN3_8⟩
  have hO2_4 := hO2_4.ext hN3_8.ext
  have hX := hX.trans hN3_8.ext
  refine xl_heavy rfl rfl rfl (hv_append_rows (size := 2) (l := [] ++ x.take (bel (tb x) [o, 0, 0, 0])) (l' := [[o, m]]) rfl rfl hO2_4 rfl (by simp; try omega) (by exact (rowsT1 hN3_8.blk (by rw [hb2]; rfl) rfl)) rfl (by decide) (by omega) (by omega) hX.size) ?_
  rintro v3_9 H3_9 ⟨hO3_9, hG3_9⟩
  have hX := Own.grown (hO2_4) hX hG3_9 (Nat.le_refl _)
  obtain ⟨a3_9, c3_9, rfl⟩ := hO3_9.val
  refine xl_pure rfl rfl rfl (pv_assign (v := .slice _ _ _) rfl rfl) ?_
  refine xl_nil ?_
  refine xthen_normal ?_
  refine xc_seq ?_
  refine xc_region ?_
  refine xl_pure rfl rfl rfl (pv_move (v := .slice _ _ _) rfl rfl) ?_
  refine xl_pure rfl rfl rfl (pv_move (v := .slice _ _ _) rfl rfl) ?_
  refine xl_pure rfl rfl rfl (pv_move (v := .int _ _) rfl rfl) ?_
  refine xl_pure rfl rfl rfl (pv_add rfl rfl rfl (fit_i64 (by omega))) ?_
  refine xl_pure rfl rfl rfl (pv_slice_l rfl rfl (.none _) (.none _) (.some rfl (by omega)) (by omega) (by simp)) ?_
  refine xl_heavy rfl rfl rfl (hv_append_rows (size := 2) (l := [] ++ x.take (bel (tb x) [o, 0, 0, 0]) ++ [[o, m]]) (l' := x.drop (bel (tb x) [o, 0, 0, 0] + 1)) rfl rfl hO3_9 rfl (by simp; try omega) (by exact ((hx.ext hX).cut (by omega) hc)) rfl (by decide) (by omega) (by omega) hX.size) ?_
  rintro v4_5 H4_5 ⟨hO4_5, hG4_5⟩
  have hX := Own.grown (hO3_9) hX hG4_5 (Nat.le_refl _)
  obtain ⟨a4_5, c4_5, rfl⟩ := hO4_5.val
  have eL : (putA x o m).length = 0 + (bel (tb x) [o, 0, 0, 0] - 0) + 1 + (x.length - (bel (tb x) [o, 0, 0, 0] + 1)) := by rw [put_has2 hh]; simp; omega
  have hOe : Own H4_5 H.size 122 2 (.slice a4_5 (putA x o m).length c4_5) (putA x o m).length (fr (putA x o m)) := by rw [eL, put_has2 hh]; simpa using hO4_5
  have hle : (putA x o m).length ≤ c4_5 := by rcases own_blk hOe with ⟨h1, h2⟩ | ⟨_, _, _, _, _, h2⟩; omega; exact h2
  refine xl_pure rfl rfl rfl (pv_assign (v := .slice _ _ _) rfl rfl) ?_
  refine xl_nil ?_
  refine xthen_normal ?_
  refine xc_seq ?_
  refine xc_region ?_
  refine xl_pure rfl rfl rfl (pv_move (v := .slice _ _ _) rfl rfl) ?_
  refine xl_pure rfl rfl rfl (pv_assign (v := .slice _ _ _) rfl rfl) ?_
  refine xl_nil ?_
  refine xthen_normal ?_
  refine xc_ret ?_
  refine fin_ret (res1 (v := .slice _ _ _) rfl rfl) ?_
  exact ⟨a4_5, c4_5, by rw [eL]; rfl, own_rowsT (wide_putA hw) hOe, hle, hX⟩

theorem c94k {O : Outer} {H : Heap} {a : Option Addr} {c : Nat} {x : List (List Int)} (hx : RowsT H 122 2 a x) (hs : Srt (tb x)) (hl : x.length < 1000000) (hc : x.length ≤ c) (o m k : Int) (hh : hasK (tb x) [o, 0, 0, 0] = true) (hk : k = (bel (tb x) [o, 0, 0, 0] : Nat)) :
    FnC Try.prog 94 #[.slice a x.length c, .int .i64 k, .int .i64 m] O H (fun v H' => ∃ a' c', v = .slice a' (putA x o m).length c' ∧ RowsT H' 122 2 a' (putA x o m) ∧ (putA x o m).length ≤ c' ∧ Ext H H') := by
  subst hk; exact c94 hx hs hl hc o m hh

theorem c71 {O : Outer} {H : Heap} {a : Option Addr} {c : Nat} {x : List (List Int)} (hx : RowsT H 122 2 a x) (hg : Goo x) (hl : x.length < 1000000) (hc : x.length ≤ c) (o : Int) :
    FnC Try.prog 71 #[.slice a x.length c, .int .i64 o] O H (fun v H' => ∃ a' c', v = .tuple #[.slice a' (openX x o).length c', .int .i64 (openE x o)] ∧ RowsT H' 122 2 a' (openX x o) ∧ (openX x o).length ≤ c' ∧ Ext H H') := by
  refine fn_enter (A := [.slice a x.length c, .int .i64 o]) Try.func71 rfl rfl ?_
  have hX := Ext.refl H
  refine xc_seq ?_
  refine xc_region ?_
  refine xl_pure rfl rfl rfl (pv_assign (v := .slice _ _ _) rfl rfl) ?_
  refine xl_pure rfl rfl rfl (pv_assign (v := .int _ _) rfl rfl) ?_
  refine xl_nil ?_
  refine xthen_normal ?_
  refine xc_seq ?_
  refine xc_seq ?_
  refine xc_region ?_
  refine xl_pure rfl rfl rfl (pv_move (v := .int _ _) rfl rfl) ?_
  refine xl_dec rfl rfl rfl (pv_lss rfl rfl rfl) (fun h1_1 => ?_) (fun h1_1 => ?_)
  · skip
    refine xl_pure rfl rfl rfl (pv_move (v := .bool _) rfl rfl) ?_
    refine xl_skip rfl rfl rfl ?_
    refine xl_skip rfl rfl rfl ?_
    refine xl_pure rfl rfl rfl (pv_pick_t (v := .bool _) rfl rfl rfl) ?_
    refine xl_nil ?_
    refine xthen_normal ?_
    refine xc_cond_t rfl ?_
    refine xc_seq ?_
    refine xc_region ?_
    refine xl_pure rfl rfl rfl (pv_move (v := .slice _ _ _) rfl rfl) ?_
    refine xl_pure rfl rfl rfl (pv_assign (v := .slice _ _ _) rfl rfl) ?_
    refine xl_pure rfl rfl rfl (pv_assign (v := .int _ _) rfl rfl) ?_
    refine xl_nil ?_
    refine xthen_normal ?_
    refine xc_ret ?_
    refine xthen_ret ?_
    refine fin_ret (res2 (v := .slice _ _ _) (x := .int _ _) rfl rfl rfl) ?_
    obtain ⟨e1, e2⟩ := open_arg (x := x) (o := o) (by omega)
    exact ⟨a, c, by rw [e1, e2], by rw [e2]; exact hx.ext hX, by rw [e2]; exact hc, hX⟩
  · skip
    refine xl_pure rfl rfl rfl (pv_move (v := .bool _) rfl rfl) ?_
    refine xl_pure rfl rfl rfl (pv_move (v := .int _ _) rfl rfl) ?_
    refine xl_dec rfl rfl rfl (pv_gtr rfl rfl rfl) (fun h1_4 => ?_) (fun h1_4 => ?_)
    · skip
      refine xl_pure rfl rfl rfl (pv_pick_f (v := .bool _) rfl rfl rfl) ?_
      refine xl_nil ?_
      refine xthen_normal ?_
      refine xc_cond_t rfl ?_
      refine xc_seq ?_
      refine xc_region ?_
      refine xl_pure rfl rfl rfl (pv_move (v := .slice _ _ _) rfl rfl) ?_
      refine xl_pure rfl rfl rfl (pv_assign (v := .slice _ _ _) rfl rfl) ?_
      refine xl_pure rfl rfl rfl (pv_assign (v := .int _ _) rfl rfl) ?_
      refine xl_nil ?_
      refine xthen_normal ?_
      refine xc_ret ?_
      refine xthen_ret ?_
      refine fin_ret (res2 (v := .slice _ _ _) (x := .int _ _) rfl rfl rfl) ?_
      obtain ⟨e1, e2⟩ := open_arg (x := x) (o := o) (by omega)
      exact ⟨a, c, by rw [e1, e2], by rw [e2]; exact hx.ext hX, by rw [e2]; exact hc, hX⟩
    · skip
      refine xl_pure rfl rfl rfl (pv_pick_f (v := .bool _) rfl rfl rfl) ?_
      refine xl_nil ?_
      refine xthen_normal ?_
      refine xc_cond_f rfl ?_
      refine xc_skip ?_
      refine xthen_normal ?_
      refine xc_seq ?_
      refine xc_seq ?_
      refine xc_region ?_
      refine xl_pure rfl rfl rfl (pv_move (v := .slice _ _ _) rfl rfl) ?_
      refine xl_pure rfl rfl rfl (pv_move (v := .int _ _) rfl rfl) ?_
      refine xl_heavy rfl rfl rfl (hv_call (g := 65) rfl rfl (c65 (hx.ext hX) hg.srt hl o) rfl) ?_
      rintro v3_2 H3_2 ⟨rfl, rfl⟩
      refine xl_dec rfl rfl rfl (pv_geq rfl rfl rfl) (fun h3_3 => ?_) (fun h3_3 => ?_)
      · skip
        refine xl_nil ?_
        refine xthen_normal ?_
        refine xc_cond_t rfl ?_
        refine xc_seq ?_
        have hh : hasK (tb x) [o, 0, 0, 0] = true := by cases hh : hasK (tb x) [o, 0, 0, 0]; rw [find_none hh] at h3_3; omega; rfl
        refine xc_region ?_
        refine xl_pure rfl rfl rfl (pv_move (v := .slice _ _ _) rfl rfl) ?_
        refine xl_pure rfl rfl rfl (pv_assign (v := .slice _ _ _) rfl rfl) ?_
        refine xl_pure rfl rfl rfl (pv_assign (v := .int _ _) rfl rfl) ?_
        refine xl_nil ?_
        refine xthen_normal ?_
        refine xc_ret ?_
        refine xthen_ret ?_
        refine fin_ret (res2 (v := .slice _ _ _) (x := .int _ _) rfl rfl rfl) ?_
        obtain ⟨e1, e2⟩ := open_state (x := x) (o := o) (by omega) (by omega) hh
        exact ⟨a, c, by rw [e1, e2], by rw [e2]; exact hx.ext hX, by rw [e2]; exact hc, hX⟩
      · skip
        refine xl_nil ?_
        refine xthen_normal ?_
        refine xc_cond_f rfl ?_
        refine xc_skip ?_
        refine xthen_normal ?_
        refine xc_seq ?_
        have hh : hasK (tb x) [o, 0, 0, 0] = false := by cases hh : hasK (tb x) [o, 0, 0, 0]; rfl; rw [find_has hh] at h3_3; omega
        refine xc_region ?_
        refine xl_pure rfl rfl rfl (pv_move (v := .slice _ _ _) rfl rfl) ?_
        refine xl_pure rfl rfl rfl (pv_move (v := .int _ _) rfl rfl) ?_
        refine xl_pure rfl rfl rfl (pv_build_s (cs := [.int _ _, .int _ _]) rfl rfl rfl) ?_
        refine xl_heavy rfl rfl rfl (hv_call (g := 66) rfl rfl (c66 (hx.ext hX) hg.srt hl hc o 0 hh) rfl) ?_
        rintro v5_3 H5_3 ⟨a5_3, c5_3, rfl, hQ5_3, hc5_3, hE5_3⟩
        have hX := hX.trans hE5_3
        refine xl_pure rfl rfl rfl (pv_assign (v := .slice _ _ _) rfl rfl) ?_
        refine xl_pure rfl rfl rfl (pv_assign (v := .int _ _) rfl rfl) ?_
        refine xl_nil ?_
        refine xthen_normal ?_
        refine xc_ret ?_
        refine fin_ret (res2 (v := .slice _ _ _) (x := .int _ _) rfl rfl rfl) ?_
        obtain ⟨e1, e2⟩ := open_ok (x := x) (o := o) (by omega) (by omega) hh
        exact ⟨a5_3, c5_3, by rw [e1, e2], by rw [e2]; exact hQ5_3, by rw [e2]; exact hc5_3, hX⟩

theorem c93 {O : Outer} {H : Heap} {a : Option Addr} {c : Nat} {x : List (List Int)} (hx : RowsT H 122 2 a x) (hg : Goo x) (hl : x.length < 1000000) (hc : x.length ≤ c) (o n : Int) :
    FnC Try.prog 93 #[.slice a x.length c, .int .i64 o, .int .i64 n] O H (fun v H' => ∃ a' c', v = .tuple #[.slice a' (takeX x o n).length c', .int .i64 (takeE x o n)] ∧ RowsT H' 122 2 a' (takeX x o n) ∧ (takeX x o n).length ≤ c' ∧ Ext H H') := by
  refine fn_enter (A := [.slice a x.length c, .int .i64 o, .int .i64 n]) Try.func93 rfl rfl ?_
  have hX := Ext.refl H
  refine xc_seq ?_
  refine xc_region ?_
  refine xl_pure rfl rfl rfl (pv_assign (v := .slice _ _ _) rfl rfl) ?_
  refine xl_pure rfl rfl rfl (pv_assign (v := .int _ _) rfl rfl) ?_
  refine xl_nil ?_
  refine xthen_normal ?_
  refine xc_seq ?_
  refine xc_region ?_
  refine xl_pure rfl rfl rfl (pv_move (v := .slice _ _ _) rfl rfl) ?_
  refine xl_pure rfl rfl rfl (pv_move (v := .int _ _) rfl rfl) ?_
  refine xl_heavy rfl rfl rfl (hv_call (g := 65) rfl rfl (c65 (hx.ext hX) hg.srt hl o) rfl) ?_
  rintro v1_2 H1_2 ⟨rfl, rfl⟩
  refine xl_pure rfl rfl rfl (pv_assign (v := .int _ _) rfl rfl) ?_
  refine xl_nil ?_
  refine xthen_normal ?_
  refine xc_seq ?_
  refine xc_seq ?_
  refine xc_region ?_
  refine xl_pure rfl rfl rfl (pv_move (v := .int _ _) rfl rfl) ?_
  refine xl_dec rfl rfl rfl (pv_lss rfl rfl rfl) (fun h2_1 => ?_) (fun h2_1 => ?_)
  · skip
    refine xl_nil ?_
    refine xthen_normal ?_
    refine xc_cond_t rfl ?_
    refine xc_seq ?_
    have hh : hasK (tb x) [o, 0, 0, 0] = false := by cases hh : hasK (tb x) [o, 0, 0, 0]; rfl; rw [find_has hh] at h2_1; omega
    refine xc_region ?_
    refine xl_pure rfl rfl rfl (pv_move (v := .slice _ _ _) rfl rfl) ?_
    refine xl_pure rfl rfl rfl (pv_assign (v := .slice _ _ _) rfl rfl) ?_
    refine xl_pure rfl rfl rfl (pv_assign (v := .int _ _) rfl rfl) ?_
    refine xl_nil ?_
    refine xthen_normal ?_
    refine xc_ret ?_
    refine xthen_ret ?_
    refine fin_ret (res2 (v := .slice _ _ _) (x := .int _ _) rfl rfl rfl) ?_
    obtain ⟨e1, e2⟩ := take_none (n := n) hh
    exact ⟨a, c, by rw [e1, e2], by rw [e2]; exact hx.ext hX, by rw [e2]; exact hc, hX⟩
  · skip
    refine xl_nil ?_
    refine xthen_normal ?_
    refine xc_cond_f rfl ?_
    refine xc_skip ?_
    refine xthen_normal ?_
    refine xc_seq ?_
    refine xc_seq ?_
    have hh : hasK (tb x) [o, 0, 0, 0] = true := by cases hh : hasK (tb x) [o, 0, 0, 0]; rw [find_none hh] at h2_1; omega; rfl
    have hfe := find_has hh
    obtain ⟨hb1, hb2⟩ := (has_at hg.srt).1 hh
    have hmn := hg.mon hh
    have hmx := hg.max
    have hme : (gr x (findA x o).toNat).getD 1 0 = mon x o := by rw [hfe]; rfl
    refine xc_region ?_
    refine xl_pure rfl rfl rfl (pv_move (v := .int _ _) rfl rfl) ?_
    refine xl_dec rfl rfl rfl (pv_lss rfl rfl rfl) (fun h4_1 => ?_) (fun h4_1 => ?_)
    · skip
      refine xl_nil ?_
      refine xthen_normal ?_
      refine xc_cond_t rfl ?_
      refine xc_seq ?_
      refine xc_region ?_
      refine xl_pure rfl rfl rfl (pv_move (v := .slice _ _ _) rfl rfl) ?_
      refine xl_pure rfl rfl rfl (pv_assign (v := .slice _ _ _) rfl rfl) ?_
      refine xl_pure rfl rfl rfl (pv_assign (v := .int _ _) rfl rfl) ?_
      refine xl_nil ?_
      refine xthen_normal ?_
      refine xc_ret ?_
      refine xthen_ret ?_
      refine fin_ret (res2 (v := .slice _ _ _) (x := .int _ _) rfl rfl rfl) ?_
      obtain ⟨e1, e2⟩ := take_arg (x := x) (o := o) hh (show n < 0 by omega)
      exact ⟨a, c, by rw [e1, e2], by rw [e2]; exact hx.ext hX, by rw [e2]; exact hc, hX⟩
    · skip
      refine xl_nil ?_
      refine xthen_normal ?_
      refine xc_cond_f rfl ?_
      refine xc_skip ?_
      refine xthen_normal ?_
      refine xc_seq ?_
      refine xc_seq ?_
      obtain ⟨ba, off, hae⟩ := (hx.ext hX).at
      refine xc_region ?_
      refine xl_pure rfl rfl rfl (pv_move (v := .int _ _) rfl rfl) ?_
      refine xl_pure rfl rfl rfl (pv_move (v := .slice _ _ _) rfl rfl) ?_
      refine xl_pure rfl rfl rfl (pv_move (v := .int _ _) rfl rfl) ?_
      refine xl_pure rfl rfl rfl (pv_indexAddr_l rfl (sl_eq (hae (by omega)).1) rfl (by omega)) ?_
      refine xl_pure rfl rfl rfl (pv_fieldAddr rfl rfl) ?_
      refine xl_light rfl rfl rfl (lv_load (v := .int _ _) rfl rfl (by exact ld_num (j := 1) (hae (by omega)).2 hx.wide (by omega) (by decide))) ?_
      refine xl_dec rfl rfl rfl (pv_gtr rfl rfl rfl) (fun h6_6 => ?_) (fun h6_6 => ?_)
      · skip
        refine xl_nil ?_
        refine xthen_normal ?_
        refine xc_cond_t rfl ?_
        refine xc_seq ?_
        refine xc_region ?_
        refine xl_pure rfl rfl rfl (pv_move (v := .slice _ _ _) rfl rfl) ?_
        refine xl_pure rfl rfl rfl (pv_assign (v := .slice _ _ _) rfl rfl) ?_
        refine xl_pure rfl rfl rfl (pv_assign (v := .int _ _) rfl rfl) ?_
        refine xl_nil ?_
        refine xthen_normal ?_
        refine xc_ret ?_
        refine xthen_ret ?_
        refine fin_ret (res2 (v := .slice _ _ _) (x := .int _ _) rfl rfl rfl) ?_
        obtain ⟨e1, e2⟩ := take_funds (x := x) (o := o) hh (show ¬ n < 0 by omega) (by omega)
        exact ⟨a, c, by rw [e1, e2], by rw [e2]; exact hx.ext hX, by rw [e2]; exact hc, hX⟩
      · skip
        refine xl_nil ?_
        refine xthen_normal ?_
        refine xc_cond_f rfl ?_
        refine xc_skip ?_
        refine xthen_normal ?_
        refine xc_seq ?_
        refine xc_region ?_
        refine xl_pure rfl rfl rfl (pv_move (v := .slice _ _ _) rfl rfl) ?_
        refine xl_pure rfl rfl rfl (pv_move (v := .int _ _) rfl rfl) ?_
        refine xl_pure rfl rfl rfl (pv_move (v := .slice _ _ _) rfl rfl) ?_
        refine xl_pure rfl rfl rfl (pv_move (v := .int _ _) rfl rfl) ?_
        refine xl_pure rfl rfl rfl (pv_indexAddr_l rfl (sl_eq (hae (by omega)).1) rfl (by omega)) ?_
        refine xl_pure rfl rfl rfl (pv_fieldAddr rfl rfl) ?_
        refine xl_light rfl rfl rfl (lv_load (v := .int _ _) rfl rfl (by exact ld_num (j := 1) (hae (by omega)).2 hx.wide (by omega) (by decide))) ?_
        refine xl_pure rfl rfl rfl (pv_move (v := .int _ _) rfl rfl) ?_
        refine xl_pure rfl rfl rfl (pv_sub rfl rfl rfl (fit_i64 (by omega))) ?_
        refine xl_heavy rfl rfl rfl (hv_call (g := 94) rfl rfl (c94k (hx.ext hX) hg.srt hl hc o ((gr x (findA x o).toNat).getD 1 0 - n) _ hh hfe) rfl) ?_
        rintro v8_9 H8_9 ⟨a8_9, c8_9, hv8_9, hQ8_9, hc8_9, hE8_9⟩
        have hX := hX.trans hE8_9
        rw [hme] at hv8_9 hQ8_9 hc8_9
        subst hv8_9
        refine xl_pure rfl rfl rfl (pv_assign (v := .slice _ _ _) rfl rfl) ?_
        refine xl_pure rfl rfl rfl (pv_assign (v := .int _ _) rfl rfl) ?_
        refine xl_nil ?_
        refine xthen_normal ?_
        refine xc_ret ?_
        refine fin_ret (res2 (v := .slice _ _ _) (x := .int _ _) rfl rfl rfl) ?_
        obtain ⟨e1, e2⟩ := take_ok (x := x) (o := o) hh (show ¬ n < 0 by omega) (by omega)
        exact ⟨a8_9, c8_9, by rw [e1, e2], by rw [e2]; exact hQ8_9, by rw [e2]; exact hc8_9, hX⟩

theorem c69 {O : Outer} {H : Heap} {a : Option Addr} {c : Nat} {x : List (List Int)} (hx : RowsT H 122 2 a x) (hg : Goo x) (hl : x.length < 1000000) (o : Int) :
    FnC Try.prog 69 #[.slice a x.length c, .int .i64 o] O H (fun v H' => (hasK (tb x) [o, 0, 0, 0] = true ∧ v = .tuple #[.int .i64 (mon x o), .int .i64 0] ∨ hasK (tb x) [o, 0, 0, 0] = false ∧ v = .tuple #[.int .i64 0, .int .i64 3]) ∧ Ext H H') := by
  refine fn_enter (A := [.slice a x.length c, .int .i64 o]) Try.func69 rfl rfl ?_
  have hX := Ext.refl H
  refine xc_seq ?_
  refine xc_region ?_
  refine xl_pure rfl rfl rfl (pv_assign (v := .int _ _) rfl rfl) ?_
  refine xl_pure rfl rfl rfl (pv_assign (v := .int _ _) rfl rfl) ?_
  refine xl_nil ?_
  refine xthen_normal ?_
  refine xc_seq ?_
  refine xc_region ?_
  refine xl_pure rfl rfl rfl (pv_move (v := .slice _ _ _) rfl rfl) ?_
  refine xl_pure rfl rfl rfl (pv_move (v := .int _ _) rfl rfl) ?_
  refine xl_heavy rfl rfl rfl (hv_call (g := 65) rfl rfl (c65 (hx.ext hX) hg.srt hl o) rfl) ?_
  rintro v1_2 H1_2 ⟨rfl, rfl⟩
  refine xl_pure rfl rfl rfl (pv_assign (v := .int _ _) rfl rfl) ?_
  refine xl_nil ?_
  refine xthen_normal ?_
  refine xc_seq ?_
  refine xc_seq ?_
  refine xc_region ?_
  refine xl_pure rfl rfl rfl (pv_move (v := .int _ _) rfl rfl) ?_
  refine xl_dec rfl rfl rfl (pv_lss rfl rfl rfl) (fun h2_1 => ?_) (fun h2_1 => ?_)
  · skip
    refine xl_nil ?_
    refine xthen_normal ?_
    refine xc_cond_t rfl ?_
    refine xc_seq ?_
    have hh : hasK (tb x) [o, 0, 0, 0] = false := by cases hh : hasK (tb x) [o, 0, 0, 0]; rfl; rw [find_has hh] at h2_1; omega
    refine xc_region ?_
    refine xl_pure rfl rfl rfl (pv_assign (v := .int _ _) rfl rfl) ?_
    refine xl_pure rfl rfl rfl (pv_assign (v := .int _ _) rfl rfl) ?_
    refine xl_nil ?_
    refine xthen_normal ?_
    refine xc_ret ?_
    refine xthen_ret ?_
    refine fin_ret (res2 (v := .int _ _) (x := .int _ _) rfl rfl rfl) ?_
    exact ⟨.inr ⟨hh, rfl⟩, hX⟩
  · skip
    refine xl_nil ?_
    refine xthen_normal ?_
    refine xc_cond_f rfl ?_
    refine xc_skip ?_
    refine xthen_normal ?_
    refine xc_seq ?_
    have hh : hasK (tb x) [o, 0, 0, 0] = true := by cases hh : hasK (tb x) [o, 0, 0, 0]; rw [find_none hh] at h2_1; omega; rfl
    have hfe := find_has hh
    obtain ⟨hb1, hb2⟩ := (has_at hg.srt).1 hh
    have hmn := hg.mon hh
    have hmx := hg.max
    have hme : (gr x (findA x o).toNat).getD 1 0 = mon x o := by rw [hfe]; rfl
    obtain ⟨ba, off, hae⟩ := (hx.ext hX).at
    refine xc_region ?_
    refine xl_pure rfl rfl rfl (pv_move (v := .slice _ _ _) rfl rfl) ?_
    refine xl_pure rfl rfl rfl (pv_move (v := .int _ _) rfl rfl) ?_
    refine xl_pure rfl rfl rfl (pv_indexAddr_l rfl (sl_eq (hae (by omega)).1) rfl (by omega)) ?_
    refine xl_pure rfl rfl rfl (pv_fieldAddr rfl rfl) ?_
    refine xl_light rfl rfl rfl (lv_load (v := .int _ _) rfl rfl (by exact ld_num (j := 1) (hae (by omega)).2 hx.wide (by omega) (by decide))) ?_
    refine xl_pure rfl rfl rfl (pv_assign (v := .int _ _) rfl rfl) ?_
    refine xl_pure rfl rfl rfl (pv_assign (v := .int _ _) rfl rfl) ?_
    refine xl_nil ?_
    refine xthen_normal ?_
    refine xc_ret ?_
    refine fin_ret (res2 (v := .int _ _) (x := .int _ _) rfl rfl rfl) ?_
    exact ⟨.inl ⟨hh, by rw [hme]⟩, hX⟩

theorem c70 {O : Outer} {H : Heap} {a : Option Addr} {c : Nat} {x : List (List Int)} (hx : RowsT H 122 2 a x) (hg : Goo x) (hl : x.length < 1000000) (hc : x.length ≤ c) (fa fb n : Int) :
    FnC Try.prog 70 #[.slice a x.length c, .int .i64 fa, .int .i64 fb, .int .i64 n] O H (fun v H' => ∃ a' c', v = .tuple #[.slice a' (moveX x fa fb n).length c', .int .i64 (moveE x fa fb n)] ∧ RowsT H' 122 2 a' (moveX x fa fb n) ∧ (moveX x fa fb n).length ≤ c' ∧ Ext H H') := by
  refine fn_enter (A := [.slice a x.length c, .int .i64 fa, .int .i64 fb, .int .i64 n]) Try.func70 rfl rfl ?_
  have hX := Ext.refl H
  refine xc_seq ?_
  refine xc_region ?_
  refine xl_pure rfl rfl rfl (pv_assign (v := .slice _ _ _) rfl rfl) ?_
  refine xl_pure rfl rfl rfl (pv_assign (v := .int _ _) rfl rfl) ?_
  refine xl_nil ?_
  refine xthen_normal ?_
  refine xc_seq ?_
  refine xc_seq ?_
  refine xc_region ?_
  refine xl_pure rfl rfl rfl (pv_move (v := .slice _ _ _) rfl rfl) ?_
  refine xl_pure rfl rfl rfl (pv_move (v := .int _ _) rfl rfl) ?_
  refine xl_heavy rfl rfl rfl (hv_call (g := 65) rfl rfl (c65 (hx.ext hX) hg.srt hl fa) rfl) ?_
  rintro v1_2 H1_2 ⟨rfl, rfl⟩
  refine xl_dec rfl rfl rfl (pv_lss rfl rfl rfl) (fun h1_3 => ?_) (fun h1_3 => ?_)
  · skip
    refine xl_pure rfl rfl rfl (pv_move (v := .bool _) rfl rfl) ?_
    refine xl_skip rfl rfl rfl ?_
    refine xl_skip rfl rfl rfl ?_
    refine xl_skip rfl rfl rfl ?_
    refine xl_skip rfl rfl rfl ?_
    refine xl_pure rfl rfl rfl (pv_pick_t (v := .bool _) rfl rfl rfl) ?_
    refine xl_nil ?_
    refine xthen_normal ?_
    refine xc_cond_t rfl ?_
    refine xc_seq ?_
    have hno : hasK (tb x) [fa, 0, 0, 0] = false ∨ hasK (tb x) [fb, 0, 0, 0] = false := by
      cases h1 : hasK (tb x) [fa, 0, 0, 0]
      · exact .inl rfl
      · cases h2 : hasK (tb x) [fb, 0, 0, 0]
        · exact .inr rfl
        · have e1 := find_has h1; have e2 := find_has h2; exfalso; omega
    refine xc_region ?_
    refine xl_pure rfl rfl rfl (pv_move (v := .slice _ _ _) rfl rfl) ?_
    refine xl_pure rfl rfl rfl (pv_assign (v := .slice _ _ _) rfl rfl) ?_
    refine xl_pure rfl rfl rfl (pv_assign (v := .int _ _) rfl rfl) ?_
    refine xl_nil ?_
    refine xthen_normal ?_
    refine xc_ret ?_
    refine xthen_ret ?_
    refine fin_ret (res2 (v := .slice _ _ _) (x := .int _ _) rfl rfl rfl) ?_
    obtain ⟨e1, e2⟩ := move_none (n := n) hno
    exact ⟨a, c, by rw [e1, e2], by rw [e2]; exact hx.ext hX, by rw [e2]; exact hc, hX⟩
  · skip
    refine xl_pure rfl rfl rfl (pv_move (v := .bool _) rfl rfl) ?_
    refine xl_pure rfl rfl rfl (pv_move (v := .slice _ _ _) rfl rfl) ?_
    refine xl_pure rfl rfl rfl (pv_move (v := .int _ _) rfl rfl) ?_
    refine xl_heavy rfl rfl rfl (hv_call (g := 65) rfl rfl (c65 (hx.ext hX) hg.srt hl fb) rfl) ?_
    rintro v1_7 H1_7 ⟨rfl, rfl⟩
    refine xl_dec rfl rfl rfl (pv_lss rfl rfl rfl) (fun h1_8 => ?_) (fun h1_8 => ?_)
    · skip
      refine xl_pure rfl rfl rfl (pv_pick_f (v := .bool _) rfl rfl rfl) ?_
      refine xl_nil ?_
      refine xthen_normal ?_
      refine xc_cond_t rfl ?_
      refine xc_seq ?_
      have hno : hasK (tb x) [fa, 0, 0, 0] = false ∨ hasK (tb x) [fb, 0, 0, 0] = false := by
        cases h1 : hasK (tb x) [fa, 0, 0, 0]
        · exact .inl rfl
        · cases h2 : hasK (tb x) [fb, 0, 0, 0]
          · exact .inr rfl
          · have e1 := find_has h1; have e2 := find_has h2; exfalso; omega
      refine xc_region ?_
      refine xl_pure rfl rfl rfl (pv_move (v := .slice _ _ _) rfl rfl) ?_
      refine xl_pure rfl rfl rfl (pv_assign (v := .slice _ _ _) rfl rfl) ?_
      refine xl_pure rfl rfl rfl (pv_assign (v := .int _ _) rfl rfl) ?_
      refine xl_nil ?_
      refine xthen_normal ?_
      refine xc_ret ?_
      refine xthen_ret ?_
      refine fin_ret (res2 (v := .slice _ _ _) (x := .int _ _) rfl rfl rfl) ?_
      obtain ⟨e1, e2⟩ := move_none (n := n) hno
      exact ⟨a, c, by rw [e1, e2], by rw [e2]; exact hx.ext hX, by rw [e2]; exact hc, hX⟩
    · skip
      refine xl_pure rfl rfl rfl (pv_pick_f (v := .bool _) rfl rfl rfl) ?_
      refine xl_nil ?_
      refine xthen_normal ?_
      refine xc_cond_f rfl ?_
      refine xc_skip ?_
      refine xthen_normal ?_
      refine xc_seq ?_
      have ha1 : hasK (tb x) [fa, 0, 0, 0] = true := by cases hh : hasK (tb x) [fa, 0, 0, 0]; have := find_none hh; omega; rfl
      have hb1 : hasK (tb x) [fb, 0, 0, 0] = true := by cases hh : hasK (tb x) [fb, 0, 0, 0]; have := find_none hh; omega; rfl
      refine xc_region ?_
      refine xl_pure rfl rfl rfl (pv_move (v := .slice _ _ _) rfl rfl) ?_
      refine xl_pure rfl rfl rfl (pv_move (v := .int _ _) rfl rfl) ?_
      refine xl_pure rfl rfl rfl (pv_move (v := .int _ _) rfl rfl) ?_
      refine xl_heavy rfl rfl rfl (hv_call (g := 93) rfl rfl (c93 (hx.ext hX) hg hl hc fa n) rfl) ?_
      rintro v3_3 H3_3 ⟨a3_3, c3_3, rfl, hQ3_3, hc3_3, hE3_3⟩
      have hX := hX.trans hE3_3
      refine xl_pure rfl rfl rfl (pv_move (v := .tuple _) rfl rfl) ?_
      refine xl_pure rfl rfl rfl (pv_extract (v := .slice _ _ _) rfl rfl rfl) ?_
      refine xl_pure rfl rfl rfl (pv_extract (v := .int _ _) rfl rfl rfl) ?_
      refine xl_pure rfl rfl rfl (pv_assign (v := .slice _ _ _) rfl rfl) ?_
      refine xl_pure rfl rfl rfl (pv_assign (v := .int _ _) rfl rfl) ?_
      refine xl_nil ?_
      refine xthen_normal ?_
      refine xc_seq ?_
      refine xc_seq ?_
      refine xc_region ?_
      refine xl_pure rfl rfl rfl (pv_move (v := .int _ _) rfl rfl) ?_
      refine xl_ndec rfl rfl rfl (pv_neq rfl rfl rfl) (fun h4_1 => ?_) (fun h4_1 => ?_)
      · skip
        refine xl_nil ?_
        refine xthen_normal ?_
        refine xc_cond_f rfl ?_
        refine xc_skip ?_
        refine xthen_normal ?_
        refine xc_seq ?_
        have h40 : takeE x fa n = 0 := by omega
        obtain ⟨hg1, ht1, hln⟩ := goo_take hg h40
        obtain ⟨hh, hn0, hnm, e2⟩ := take_inv h40
        have hl1 : (takeX x fa n).length < 1000000 := by rw [e2, len_has hg.srt hh]; exact hl
        have hb2 : hasK (tb (takeX x fa n)) [fb, 0, 0, 0] = true := by rw [e2, has_put hg.srt hh]; exact hb1
        have hfe := find_has hb2
        obtain ⟨hbl, hbo⟩ := (has_at hg1.srt).1 hb2
        have hm2 := hg1.mon hb2
        have hmx := hg.max
        have hme : (gr (takeX x fa n) (findA (takeX x fa n) fb).toNat).getD 1 0 = mon (takeX x fa n) fb := by rw [hfe]; rfl
        refine xc_region ?_
        refine xl_pure rfl rfl rfl (pv_move (v := .slice _ _ _) rfl rfl) ?_
        refine xl_pure rfl rfl rfl (pv_move (v := .int _ _) rfl rfl) ?_
        refine xl_heavy rfl rfl rfl (hv_call (g := 65) rfl rfl (c65 hQ3_3 hg1.srt hl1 fb) rfl) ?_
        rintro v6_2 H6_2 ⟨rfl, rfl⟩
        refine xl_pure rfl rfl rfl (pv_assign (v := .int _ _) rfl rfl) ?_
        refine xl_nil ?_
        refine xthen_normal ?_
        refine xc_seq ?_
        obtain ⟨ba, off, hae⟩ := hQ3_3.at
        refine xc_region ?_
        refine xl_pure rfl rfl rfl (pv_move (v := .slice _ _ _) rfl rfl) ?_
        refine xl_pure rfl rfl rfl (pv_move (v := .int _ _) rfl rfl) ?_
        refine xl_pure rfl rfl rfl (pv_move (v := .slice _ _ _) rfl rfl) ?_
        refine xl_pure rfl rfl rfl (pv_move (v := .int _ _) rfl rfl) ?_
        refine xl_pure rfl rfl rfl (pv_indexAddr_l rfl (sl_eq (hae (by omega)).1) rfl (by omega)) ?_
        refine xl_pure rfl rfl rfl (pv_fieldAddr rfl rfl) ?_
        refine xl_light rfl rfl rfl (lv_load (v := .int _ _) rfl rfl (by exact ld_num (j := 1) (hae (by omega)).2 hQ3_3.wide (by omega) (by decide))) ?_
        refine xl_pure rfl rfl rfl (pv_move (v := .int _ _) rfl rfl) ?_
        refine xl_pure rfl rfl rfl (pv_add rfl rfl rfl (fit_i64 (by omega))) ?_
        refine xl_heavy rfl rfl rfl (hv_call (g := 94) rfl rfl (c94k hQ3_3 hg1.srt hl1 hc3_3 fb ((gr (takeX x fa n) (findA (takeX x fa n) fb).toNat).getD 1 0 + n) _ hb2 hfe) rfl) ?_
        rintro v7_9 H7_9 ⟨a7_9, c7_9, hv7_9, hQ7_9, hc7_9, hE7_9⟩
        have hQ3_3 := hQ3_3.ext hE7_9
        have hX := hX.trans hE7_9
        rw [hme] at hv7_9 hQ7_9 hc7_9
        subst hv7_9
        refine xl_pure rfl rfl rfl (pv_assign (v := .slice _ _ _) rfl rfl) ?_
        refine xl_pure rfl rfl rfl (pv_assign (v := .int _ _) rfl rfl) ?_
        refine xl_nil ?_
        refine xthen_normal ?_
        refine xc_ret ?_
        refine fin_ret (res2 (v := .slice _ _ _) (x := .int _ _) rfl rfl rfl) ?_
        obtain ⟨e1, e2⟩ := move_ok (n := n) ha1 hb1 h40
        exact ⟨a7_9, c7_9, by rw [e1, e2], by rw [e2]; exact hQ7_9, by rw [e2]; exact hc7_9, hX⟩
      · skip
        refine xl_nil ?_
        refine xthen_normal ?_
        refine xc_cond_t rfl ?_
        refine xc_seq ?_
        refine xc_region ?_
        refine xl_pure rfl rfl rfl (pv_move (v := .slice _ _ _) rfl rfl) ?_
        refine xl_pure rfl rfl rfl (pv_move (v := .int _ _) rfl rfl) ?_
        refine xl_pure rfl rfl rfl (pv_assign (v := .slice _ _ _) rfl rfl) ?_
        refine xl_pure rfl rfl rfl (pv_assign (v := .int _ _) rfl rfl) ?_
        refine xl_nil ?_
        refine xthen_normal ?_
        refine xc_ret ?_
        refine xthen_ret ?_
        refine fin_ret (res2 (v := .slice _ _ _) (x := .int _ _) rfl rfl rfl) ?_
        obtain ⟨e1, e2⟩ := move_bad ha1 hb1 (show ¬ takeE x fa n = 0 by omega)
        exact ⟨a, c, by rw [e1, e2], by rw [e2]; exact hx.ext hX, by rw [e2]; exact hc, hX⟩

theorem c31 {O : Outer} {H : Heap} (l m : List (List Int)) (a a' : Option Addr) (c c' : Nat) (hs : Rows H a 2 l) (hs' : Rows H a' 2 m) (hl : l.length < 4611686018427387904) :
    FnC Try.prog 31 #[.slice a l.length c, .slice a' m.length c'] O H (fun v H' => ∃ r, v = .bool r ∧ (r = true ↔ l = m) ∧ H = H') := by
  refine fn_enter (A := [.slice a l.length c, .slice a' m.length c']) Try.func31 rfl rfl ?_
  refine xc_seq ?_
  refine xc_region ?_
  refine xl_pure rfl rfl rfl (pv_assign (v := .bool _) rfl rfl) ?_
  refine xl_nil ?_
  refine xthen_normal ?_
  refine xc_seq ?_
  refine xc_seq ?_
  refine xc_region ?_
  refine xl_pure rfl rfl rfl (pv_move (v := .slice _ _ _) rfl rfl) ?_
  refine xl_pure rfl rfl rfl (pv_len_l rfl rfl) ?_
  refine xl_pure rfl rfl rfl (pv_move (v := .slice _ _ _) rfl rfl) ?_
  refine xl_pure rfl rfl rfl (pv_len_l rfl rfl) ?_
  refine xl_ndec rfl rfl rfl (pv_neq rfl rfl rfl) (fun h1_4 => ?_) (fun h1_4 => ?_)
  · skip
    refine xl_nil ?_
    refine xthen_normal ?_
    refine xc_cond_f rfl ?_
    refine xc_skip ?_
    refine xthen_normal ?_
    refine xc_seq ?_
    refine xc_seq ?_
    refine xc_region ?_
    refine xl_pure rfl rfl rfl (pv_assign (v := .int _ _) rfl rfl) ?_
    refine xl_nil ?_
    refine xthen_normal ?_
    refine xc_block ?_
    refine xc_loop (τ := Nat) (fun t => [(0, .slice a l.length c), (1, .slice a' m.length c'), (5, .int .i64 (t : Nat))]) (fun t H' => t ≤ l.length ∧ (l = m ↔ l.drop t = m.drop t) ∧ H = H') (fun t H' => l.length - t) 0 ?_ ?_ ?_
    · exact ⟨rfl, rfl, rfl, trivial⟩
    · skip
      exact ⟨Nat.zero_le _, Iff.rfl, rfl⟩
    · intro σ
      rintro k Hl ⟨hk, heq, rfl⟩
      show XC _ _ _ (upds σ [(0, .slice a l.length c), (1, .slice a' m.length c'), (5, .int .i64 (k : Nat))]) _
      refine xc_seq ?_
      refine xc_seq ?_
      refine xc_region ?_
      refine xl_pure rfl rfl rfl (pv_move (v := .int _ _) rfl rfl) ?_
      refine xl_pure rfl rfl rfl (pv_move (v := .slice _ _ _) rfl rfl) ?_
      refine xl_pure rfl rfl rfl (pv_len_l rfl rfl) ?_
      refine xl_dec rfl rfl rfl (pv_lss rfl rfl rfl) (fun h4_3 => ?_) (fun h4_3 => ?_)
      · skip
        refine xl_pure rfl rfl rfl (pv_move (v := .bool _) rfl rfl) ?_
        refine xl_pure rfl rfl rfl (pv_move (v := .int _ _) rfl rfl) ?_
        refine xl_pure rfl rfl rfl (pv_move (v := .slice _ _ _) rfl rfl) ?_
        refine xl_pure rfl rfl rfl (pv_len_l rfl rfl) ?_
        refine xl_dec rfl rfl rfl (pv_lss rfl rfl rfl) (fun h4_8 => ?_) (fun h4_8 => ?_)
        · skip
          refine xl_pure rfl rfl rfl (pv_pick_t (v := .bool _) rfl rfl rfl) ?_
          refine xl_nil ?_
          refine xthen_normal ?_
          refine xc_cond_t rfl ?_
          refine xc_skip ?_
          refine xthen_normal ?_
          refine xc_seq ?_
          refine xc_block ?_
          refine xc_seq ?_
          obtain ⟨ba, off, rfl, hsa⟩ := hs.2.resolve_left (by omega)
          obtain ⟨bb, off', rfl, hsb⟩ := hs'.2.resolve_left (by omega)
          refine xp_start rfl (by repeat (first | with_reducible exact np_fin | with_reducible exact np_ret | with_reducible refine np_then ?_ | with_reducible refine np_block ?_)) (by kernel_rfl) ?_
          refine xp_pure (i := 0) rfl (by kernel_rfl) (by kernel_rfl) rfl rfl rfl (pv_move (v := .slice _ _ _) rfl rfl) ?_
          refine xp_pure (i := 1) rfl (by kernel_rfl) (by kernel_rfl) rfl rfl rfl (pv_move (v := .int _ _) rfl rfl) ?_
          refine xp_pure (i := 2) rfl (by kernel_rfl) (by kernel_rfl) rfl rfl rfl (pv_indexAddr_l rfl rfl rfl (by omega)) ?_
          refine xp_light (i := 3) rfl (by kernel_rfl) (by kernel_rfl) rfl rfl rfl (lv_load (v := .agg _) rfl rfl (by first | exact ld_row' (i := k) hsa hs.1 (by omega))) ?_
          refine xp_pure (i := 4) rfl (by kernel_rfl) (by kernel_rfl) rfl rfl rfl (pv_move (v := .slice _ _ _) rfl rfl) ?_
          refine xp_pure (i := 5) rfl (by kernel_rfl) (by kernel_rfl) rfl rfl rfl (pv_move (v := .int _ _) rfl rfl) ?_
          refine xp_pure (i := 6) rfl (by kernel_rfl) (by kernel_rfl) rfl rfl rfl (pv_indexAddr_l rfl rfl rfl (by omega)) ?_
          refine xp_light (i := 7) rfl (by kernel_rfl) (by kernel_rfl) rfl rfl rfl (lv_load (v := .agg _) rfl rfl (by first | exact ld_row' (i := k) hsb hs'.1 (by omega))) ?_
          refine xp_ndec (i := 8) rfl (by kernel_rfl) (by kernel_rfl) rfl rfl rfl (pv_neq_g (gr l k) (gr m k) rfl rfl rfl (hs.1.get (by omega)) (hs'.1.get (by omega))) (fun h6_8 => ?_) (fun h6_8 => ?_)
          · skip
            refine xp_done (by kernel_rfl) ?_
            refine xthen_normal ?_
            refine xc_cond_f rfl ?_
            refine xc_skip ?_
            refine xblock_normal ?_
            refine xthen_normal ?_
            refine xc_region ?_
            refine xl_pure rfl rfl rfl (pv_move (v := .int _ _) rfl rfl) ?_
            refine xl_pure rfl rfl rfl (pv_add rfl rfl rfl (fit_i64 (by omega))) ?_
            refine xl_pure rfl rfl rfl (pv_assign (v := .int _ _) rfl rfl) ?_
            refine xl_nil ?_
            refine xthen_normal ?_
            exact ⟨k + 1, ⟨rfl, rfl, rfl, trivial⟩, ⟨by omega, (rows_drop (by omega) (by omega) heq).trans ⟨fun h => h.2, fun h => ⟨h6_8, h⟩⟩, rfl⟩, by omega⟩
          · skip
            refine xp_done (by kernel_rfl) ?_
            refine xthen_normal ?_
            refine xc_cond_t rfl ?_
            refine xc_seq ?_
            refine xc_region ?_
            refine xl_pure rfl rfl rfl (pv_assign (v := .bool _) rfl rfl) ?_
            refine xl_nil ?_
            refine xthen_normal ?_
            refine xc_ret ?_
            refine xblock_ret ?_
            refine xthen_ret ?_
            refine xthen_ret ?_
            refine xblock_ret ?_
            refine xthen_ret ?_
            refine fin_ret (res1 (v := .bool _) rfl rfl) ?_
            exact ⟨false, rfl, ⟨fun h => absurd h (by decide), fun h => absurd ((rows_drop (by omega) (by omega) heq).1 h).1 h6_8⟩, rfl⟩
        · skip
          refine xl_pure rfl rfl rfl (pv_pick_t (v := .bool _) rfl rfl rfl) ?_
          refine xl_nil ?_
          refine xthen_normal ?_
          refine xc_cond_f rfl ?_
          refine xc_exit ?_
          refine xthen_exit ?_
          refine xthen_exit ?_
          refine xblock_same ?_
          refine xthen_normal ?_
          refine xc_seq ?_
          refine xc_region ?_
          refine xl_pure rfl rfl rfl (pv_assign (v := .bool _) rfl rfl) ?_
          refine xl_nil ?_
          refine xthen_normal ?_
          refine xc_ret ?_
          refine fin_ret (res1 (v := .bool _) rfl rfl) ?_
          exact ⟨true, rfl, ⟨fun _ => heq.2 (by rw [List.drop_of_length_le (by omega), List.drop_of_length_le (by omega)]), fun _ => rfl⟩, rfl⟩
      · skip
        refine xl_pure rfl rfl rfl (pv_move (v := .bool _) rfl rfl) ?_
        refine xl_skip rfl rfl rfl ?_
        refine xl_skip rfl rfl rfl ?_
        refine xl_skip rfl rfl rfl ?_
        refine xl_skip rfl rfl rfl ?_
        refine xl_pure rfl rfl rfl (pv_pick_f (v := .bool _) rfl rfl rfl) ?_
        refine xl_nil ?_
        refine xthen_normal ?_
        refine xc_cond_f rfl ?_
        refine xc_exit ?_
        refine xthen_exit ?_
        refine xthen_exit ?_
        refine xblock_same ?_
        refine xthen_normal ?_
        refine xc_seq ?_
        refine xc_region ?_
        refine xl_pure rfl rfl rfl (pv_assign (v := .bool _) rfl rfl) ?_
        refine xl_nil ?_
        refine xthen_normal ?_
        refine xc_ret ?_
        refine fin_ret (res1 (v := .bool _) rfl rfl) ?_
        exact ⟨true, rfl, ⟨fun _ => heq.2 (by rw [List.drop_of_length_le (by omega), List.drop_of_length_le (by omega)]), fun _ => rfl⟩, rfl⟩
  · skip
    refine xl_nil ?_
    refine xthen_normal ?_
    refine xc_cond_t rfl ?_
    refine xc_seq ?_
    refine xc_region ?_
    refine xl_pure rfl rfl rfl (pv_assign (v := .bool _) rfl rfl) ?_
    refine xl_nil ?_
    refine xthen_normal ?_
    refine xc_ret ?_
    refine xthen_ret ?_
    refine fin_ret (res1 (v := .bool _) rfl rfl) ?_
    exact ⟨false, rfl, ⟨fun h => absurd h (by decide), fun h => by subst h; omega⟩, rfl⟩

theorem c32 {O : Outer} {H : Heap} {bp c : Nat} {a : Option Addr} {x : List (List Int)} (mp : Blk H bp [.slice a (tb x).length c, .int .i64 (tot x)] 92) (hR : RowsT H 138 5 a (tb x)) (hc : (tb x).length ≤ c) (hna : a = none → c = 0) (hl : (tb x).length < 1000000) (hg : Goo x) :
    FnC Try.prog 32 #[.pointer (some ⟨bp, 0, none⟩)] O H (fun v H' => ∃ a' c', v = .slice a' x.length c' ∧ RowsT H' 122 2 a' x ∧ Ext H H') := by
  refine fn_enter (A := [.pointer (some ⟨bp, 0, none⟩)]) Try.func32 rfl rfl ?_
  have hX := Ext.refl H
  refine xc_seq ?_
  refine xc_region ?_
  refine xl_pure rfl rfl rfl (pv_assign (v := .slice _ _ _) rfl rfl) ?_
  refine xl_nil ?_
  refine xthen_normal ?_
  refine xc_seq ?_
  refine xc_seq ?_
  refine xc_region ?_
  refine xl_pure rfl rfl rfl (pv_move (v := .pointer _) rfl rfl) ?_
  refine xl_pure rfl rfl rfl (pv_eql_pn rfl rfl rfl) ?_
  refine xl_nil ?_
  refine xthen_normal ?_
  refine xc_cond_f rfl ?_
  refine xc_skip ?_
  refine xthen_normal ?_
  refine xc_seq ?_
  refine xc_region ?_
  refine xl_heavy rfl rfl rfl (hv_alloc rfl rfl) ?_
  rintro v3_0 H3_0 ⟨b3_0, rfl, hN3_0⟩
  have gb3_0 := hX.fresh hN3_0
  have nmp_3_0 := mp.apart hN3_0
  have mp := mp.ext hN3_0.ext
  have hR := hR.ext hN3_0.ext
  have hX := hX.trans hN3_0.ext
  have m3_0 := hN3_0.blk
  refine xl_nil ?_
  refine xthen_normal ?_
  refine xc_seq_marks2 ?_
  refine xc_region ?_
  refine xl_pure rfl rfl rfl (pv_move (v := .pointer _) rfl rfl) ?_
  refine xl_pure rfl rfl rfl (pv_nilCheck_p rfl rfl) ?_
  refine xl_pure rfl rfl rfl (pv_fieldAddr rfl rfl) ?_
  refine xl_heavy rfl rfl rfl (hv_call (g := 64) rfl rfl (c64 (some ⟨bp, 0, none⟩)) rfl) ?_
  rintro v4_3 H4_3 ⟨bi, rfl, hN4_3⟩
  have m3_0 := m3_0.ext hN4_3.ext
  have mp := mp.ext hN4_3.ext
  have hR := hR.ext hN4_3.ext
  have hX := hX.trans hN4_3.ext
  have mi := hN4_3.blk
  refine xl_nil ?_
  refine xthen_normal ?_
  have hXs := hX.size
  refine xs_rangeB (f := fun i => [.agg (ints (ky (gr (tb x) i))).toArray, .int .i64 ((gr (tb x) i).getD 4 0)]) (n := (tb x).length) rfl (tAll (bt := bp) (b1 := bi) (t := 92) (c := c) (rest := [.int .i64 (tot x)]) (a := a) (l := tb x) (by omega)) (fun _ => rfl) rfl (fun i H' => ∃ (va : Option Addr), ∃ (vc : Nat), (Blk H' b3_0 [.slice va i vc] 55) ∧ (Own H' H.size 122 2 (.slice va i vc) i (fr (x.take i))) ∧ (RowsT H' 138 5 a (tb x)) ∧ (Blk H' bp [.slice a (tb x).length c, .int .i64 (tot x)] 92) ∧ (Blk H' bi [.pointer (some ⟨bp, 0, none⟩)] 136) ∧ (Ext H H')) (fun H' => False) ?_ ?_ ?_ ?_ ?_ ?_ ?_ ?_ ?_ ?_
  · rintro i H1 H2 ⟨va, vc, m3_0, ho, hR, mp, mi, hX⟩ e; exact ⟨va, vc, m3_0.ext e, ho.ext e, hR.ext e, mp.ext e, mi.ext e, hX.trans e⟩
  · rintro i l H1 H2 hle ⟨va, vc, m3_0, ho, hR, mp, mi, hX⟩ u; exact ⟨va, vc, m3_0.lp u, ho.lp u, hR.lp u, mp.lp u, mi.lp u, hX.lp u (Nat.le_trans hXs hle)⟩
  · intro _ _ h; exact h.elim
  · intro _ _ _ _ h; exact h.elim
  · rintro H' ⟨va, vc, m3_0, ho, hR, mp, mi, hX⟩; exact ⟨mi, mp⟩
  · rintro i H' ⟨va, vc, m3_0, ho, hR, mp, mi, hX⟩; exact hR
  · exact ⟨none, 0, m3_0, by simpa [fr] using Own.nil _ H.size 122 2, hR, mp, mi, hX⟩
  · skip
    clear hX mp hR m3_0 mi
    rintro i Hr5 oD oL hi5 ⟨va, vc, m3_0, ho, hR, mp, mi, hX⟩ hD hL
    replace m3_0 : Blk Hr5 b3_0 [.slice va i vc] 55 := m3_0
    replace ho : Own Hr5 H.size 122 2 (.slice va i vc) i (fr (x.take i)) := ho
    replace hR : RowsT Hr5 138 5 a (tb x) := hR
    replace mp : Blk Hr5 bp [.slice a (tb x).length c, .int .i64 (tot x)] 92 := mp
    replace mi : Blk Hr5 bi [.pointer (some ⟨bp, 0, none⟩)] 136 := mi
    replace hX : Ext H Hr5 := hX
    have hil : i < x.length := by rw [← tb_len]; exact hi5
    have hkl := ky_len (hR.wide.get hi5) (by decide)
    have hD0 := hD; have hL0 := hL
    show XC _ _ _ (upd (upd _ 12 (.agg (ints (ky (gr (tb x) i))).toArray)) 13 (.int .i64 ((gr (tb x) i).getD 4 0))) _
    refine xc_seq ?_
    refine xc_region ?_
    refine xl_heavy rfl rfl rfl (hv_alloc rfl rfl) ?_
    rintro v5_0 H5_0 ⟨b5_0, rfl, hN5_0⟩
    have gb5_0 := hX.fresh hN5_0
    have nmp_5_0 := mp.apart hN5_0
    have nm3_0_5_0 := m3_0.apart hN5_0
    have nmi_5_0 := mi.apart hN5_0
    have mp := mp.ext hN5_0.ext
    have hR := hR.ext hN5_0.ext
    have m3_0 := m3_0.ext hN5_0.ext
    have mi := mi.ext hN5_0.ext
    have ho := ho.ext hN5_0.ext
    have hD := hD.ext hN5_0.ext
    have hL := hL.ext hN5_0.ext
    have hX := hX.trans hN5_0.ext
    have m5_0 := hN5_0.blk
    refine xl_store rfl rfl (hv_storeA (vs := ints (ky (gr (tb x) i))) rfl rfl rfl (m5_0) (ints_ten hkl) (by rfl) (ints_one _)) ?_
    rintro v5_1 H5_1 ⟨hU5_1, hZ5_1⟩
    have mp := mp.off hU5_1.but (by first | exact nmp_5_0 | exact ⟨mp.ne m5_0 rfl⟩ | exact ⟨mp.ne m5_0 (by assumption)⟩ | exact ⟨Ne.symm (m5_0.ne mp (by assumption))⟩)
    have hR := hR.offT m5_0 hU5_1.but (by first | rfl | assumption)
    have m3_0 := m3_0.off hU5_1.but (by first | exact nm3_0_5_0 | exact ⟨m3_0.ne m5_0 rfl⟩ | exact ⟨m3_0.ne m5_0 (by assumption)⟩ | exact ⟨Ne.symm (m5_0.ne m3_0 (by assumption))⟩)
    have mi := mi.off hU5_1.but (by first | exact nmi_5_0 | exact ⟨mi.ne m5_0 rfl⟩ | exact ⟨mi.ne m5_0 (by assumption)⟩ | exact ⟨Ne.symm (m5_0.ne mi (by assumption))⟩)
    have ho := ho.offU m5_0 hU5_1.but (.inl rfl)
    have hD := hD.off m5_0 hU5_1.but
    have hL := hL.off m5_0 hU5_1.but
    have hX := hX.upd hU5_1.but gb5_0
    have m5_0 := hU5_1.blk
    refine xl_nil ?_
    refine xthen_normal ?_
    refine xc_region ?_
    refine xl_pure rfl rfl rfl (pv_assign (v := .int _ _) rfl rfl) ?_
    refine xl_nil ?_
    refine xasg_mk (RecKept.of hD0 hL0 hD hL) (fun Hb5 oD oL uB hD hL => ?_)
    have mp := mp.lp uB
    have hR := hR.lp uB
    have m3_0 := m3_0.lp uB
    have mi := mi.lp uB
    have ho := ho.lp uB
    have m5_0 := m5_0.lp uB
    have hX := hX.lp uB (Nat.le_succ_of_le hXs)
    have hD0 := hD; have hL0 := hL
    refine xc_block ?_
    refine xc_region ?_
    refine xl_light rfl rfl rfl (lv_load (v := .slice _ _ _) rfl rfl (ld_blk m3_0 rfl)) ?_
    refine xl_pure rfl rfl rfl (pv_indexAddr_a rfl rfl rfl (by omega)) ?_
    refine xl_light rfl rfl rfl (lv_load (v := .int _ _) rfl rfl (by exact ld_get (i := 0) m5_0 (by omega))) ?_
    refine xl_pure rfl rfl rfl (pv_move (v := .int _ _) rfl rfl) ?_
    refine xl_pure rfl rfl rfl (pv_build_s (cs := [.int _ _, .int _ _]) rfl rfl rfl) ?_
    refine xl_heavy rfl rfl rfl (hv_buildSlice (cs := [.int _ _, .int _ _]) rfl rfl rfl rfl rfl) ?_
    rintro v7_5 H7_5 ⟨b7_5, rfl, hN7_5⟩
    have gb7_5 := hX.fresh hN7_5
    have nmp_7_5 := mp.apart hN7_5
    have nm3_0_7_5 := m3_0.apart hN7_5
    have nmi_7_5 := mi.apart hN7_5
    have pm7_5_ho := ho.apartN hN7_5
    have nm5_0_7_5 := m5_0.apart hN7_5
    have mp := mp.ext hN7_5.ext
    have hR := hR.ext hN7_5.ext
    have m3_0 := m3_0.ext hN7_5.ext
    have mi := mi.ext hN7_5.ext
    have ho := ho.ext hN7_5.ext
    have hD := hD.ext hN7_5.ext
    have hL := hL.ext hN7_5.ext
    have m5_0 := m5_0.ext hN7_5.ext
    have hX := hX.trans hN7_5.ext
    have m7_5 := hN7_5.blk
    refine xl_heavy rfl rfl rfl (hv_append (size := 2) rfl rfl ho rfl m7_5.row rfl (by simp [Value.oneCell']) rfl (by decide) (by omega) (by omega) hX.size) ?_
    rintro v7_6 H7_6 ⟨hO7_6, hG7_6, -, hB7_6⟩
    have mp := mp.offT ho hG7_6 rfl
    have hR := hR.growT ho hG7_6 (by first | rfl | assumption)
    have m3_0 := m3_0.offT ho hG7_6 rfl
    have mi := mi.offT ho hG7_6 rfl
    have hD := hD.grow ho hG7_6
    have hL := hL.grow ho hG7_6
    have m5_0 := m5_0.offT ho hG7_6 rfl
    have hX := ho.grown hX hG7_6 (Nat.le_refl _)
    obtain ⟨a7_6, c7_6, rfl⟩ := hO7_6.val
    refine xl_store rfl rfl (hv_store (vs := [.slice _ _ _]) rfl rfl rfl (m3_0) rfl (Nat.le_of_ble_eq_true rfl) rfl) ?_
    rintro v7_7 H7_7 ⟨hU7_7, hZ7_7⟩
    have mp := mp.off hU7_7.but (by first | exact nmp_3_0 | exact ⟨mp.ne m3_0 rfl⟩ | exact ⟨mp.ne m3_0 (by assumption)⟩ | exact ⟨Ne.symm (m3_0.ne mp (by assumption))⟩)
    have hR := hR.offT m3_0 hU7_7.but (by first | rfl | assumption)
    have mi := mi.off hU7_7.but (by first | exact nm3_0_mi.symm | exact ⟨mi.ne m3_0 rfl⟩ | exact ⟨mi.ne m3_0 (by assumption)⟩ | exact ⟨Ne.symm (m3_0.ne mi (by assumption))⟩)
    have hD := hD.off m3_0 hU7_7.but
    have hL := hL.off m3_0 hU7_7.but
    have m5_0 := m5_0.off hU7_7.but (by first | exact nm3_0_5_0.symm | exact ⟨m5_0.ne m3_0 rfl⟩ | exact ⟨m5_0.ne m3_0 (by assumption)⟩ | exact ⟨Ne.symm (m3_0.ne m5_0 (by assumption))⟩)
    have hO7_6 := hO7_6.offU m3_0 hU7_7.but (.inl rfl)
    have hX := hX.upd hU7_7.but gb3_0
    have m3_0 := hU7_7.blk
    refine xl_nil ?_
    refine xblock_normal ?_
    exact xround_n (RecKept.of hD0 hL0 hD hL) ⟨_, _, m3_0, by have e := hO7_6; rw [gr_tb hil] at e; rw [frs_take hil, ← row2 (hg.wide.get hil)]; exact e, hR, mp, mi, hX⟩
  · skip
    clear hX mp hR m3_0 mi
    rintro Hd5 ⟨va, vc, m3_0, ho, hR, mp, mi, hX⟩ hM
    replace m3_0 : Blk Hd5 b3_0 [.slice va ((tb x).length) vc] 55 := m3_0
    replace ho : Own Hd5 H.size 122 2 (.slice va ((tb x).length) vc) ((tb x).length) (fr (x.take ((tb x).length))) := ho
    replace hR : RowsT Hd5 138 5 a (tb x) := hR
    replace mp : Blk Hd5 bp [.slice a (tb x).length c, .int .i64 (tot x)] 92 := mp
    replace mi : Blk Hd5 bi [.pointer (some ⟨bp, 0, none⟩)] 136 := mi
    replace hX : Ext H Hd5 := hX
    rw [tb_len] at ho m3_0
    rw [List.take_length] at ho
    refine xc_seq ?_
    refine xc_region ?_
    refine xl_light rfl rfl rfl (lv_load (v := .slice _ _ _) rfl rfl (ld_blk m3_0 rfl)) ?_
    refine xl_pure rfl rfl rfl (pv_assign (v := .slice _ _ _) rfl rfl) ?_
    refine xl_nil ?_
    refine xthen_normal ?_
    refine xc_retm rfl hM.h ?_
    have uM := lpw_set (o' := .deferred none) hM.h hM.r
    have mp := mp.lp uM
    have hR := hR.lp uM
    have m3_0 := m3_0.lp uM
    have mi := mi.lp uM
    have ho := ho.lp uM
    have hX := hX.lp uM hXs
    refine xret_ret ?_
    refine fin_ret (res1 (v := .slice _ _ _) rfl rfl) ?_
    exact ⟨_, _, rfl, own_rowsT (n := x.length) hg.wide ho, hX⟩
  · skip
    intro _ h; exact h.elim
end Go.XG.Pu
