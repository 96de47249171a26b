/-
  Walks of the seat's functions over the logic XG: each function, what it computes. Printed by a program out of wip/walks.py.
-/
import Derived.Test.YtmmogpcmpbkajaaI
import Derived.Test.YtmmogpcmpbkajaaP
import Derived.Test.YtmmogpcmpbkajaaL
import Derived.Test.YtmmogpcmpbkajaaLn
namespace Go.XG
open Go.Proofs Go.Pen
set_option maxRecDepth 4000
set_option maxHeartbeats 4000000
theorem p28 {O : Outer} {H : Heap} (n : Nat) (hn : n < 18446744073709551616) :
    FnC Try.prog 52 #[.int .u64 n] O H (fun v H' => v = .string (bs (W n)) ∧ Ext H H') := by
  refine fn_enter (A := [.int .u64 n]) Try.func52 rfl rfl ?_
  refine xc_seq ?_
  refine xc_region ?_
  refine xl_pure rfl rfl rfl (pv_assign (v := .string (bs _)) rfl rfl) ?_
  refine xl_nil ?_
  refine xthen_normal ?_
  refine xc_seq ?_
  refine xc_region ?_
  refine xl_pure rfl rfl rfl (pv_assign (v := .slice _ _ _) rfl rfl) ?_
  refine xl_nil ?_
  refine xthen_normal ?_
  refine xc_seq ?_
  refine xc_block ?_
  refine xc_loop (τ := Nat × Value × List UInt8) (fun t => [(0, .int .u64 t.1), (3, t.2.1)]) (fun t H' => ∃ f, f + t.2.2.length = 9 ∧ t.1 < 2 * 128 ^ f ∧ t.1 ≤ n ∧ t.2.2 ++ Wf f t.1 = W n ∧ Own H' H.size 5 1 t.2.1 t.2.2.length (t.2.2.map byte) ∧ Ext H H') (fun t H' => t.1) (n, .slice none 0 0, []) ?_ ?_ ?_
  · exact ⟨rfl, rfl, trivial⟩
  · skip
    exact ⟨9, rfl, w_bound hn, Nat.le_refl _, rfl, Own.nil .., Ext.refl _⟩
  · intro σ
    rintro ⟨m, vb, p⟩ Hl ⟨f, hf, hm, hmn, hp, hown, hX⟩
    simp only at hf hm hmn hp hown
    obtain ⟨va, vc, rfl⟩ := hown.val
    refine xc_seq ?_
    refine xc_seq ?_
    refine xc_region ?_
    refine xl_pure rfl rfl rfl (pv_move (v := .int _ _) rfl rfl) ?_
    refine xl_dec rfl rfl rfl (pv_gtr rfl rfl rfl) (fun h2_1 => ?_) (fun h2_1 => ?_)
    · skip
      refine xl_nil ?_
      refine xthen_normal ?_
      refine xc_cond_t rfl ?_
      refine xc_skip ?_
      refine xthen_normal ?_
      refine xc_block ?_
      refine xc_seq ?_
      refine xc_region ?_
      refine xl_pure rfl rfl rfl (pv_move (v := .slice _ _ _) rfl rfl) ?_
      refine xl_pure rfl rfl rfl (pv_move (v := .int _ _) rfl rfl) ?_
      refine xl_pure rfl rfl rfl (pv_and rfl rfl rfl (and127 m (by omega))) ?_
      refine xl_pure rfl rfl rfl (pv_conv rfl rfl (fit_u8 (by omega))) ?_
      refine xl_pure rfl rfl rfl (pv_or rfl rfl rfl (or128 _ (by omega))) ?_
      refine xl_heavy rfl rfl rfl (hv_buildSlice (cs := [.int _ _]) rfl rfl rfl rfl rfl) ?_
      rintro v3_5 H3_5 ⟨b3_5, rfl, hN3_5⟩
      refine xl_heavy rfl rfl rfl (hv_append rfl rfl (hown.ext hN3_5.ext) rfl hN3_5.blk.row rfl (by simp [Value.oneCell']) rfl (by decide) (by omega) (by omega) (Nat.le_trans hX.size hN3_5.ext.size)) ?_
      rintro v3_6 H3_6 ⟨hO3_6, hG3_6, -, -⟩
      obtain ⟨a3_6, c3_6, rfl⟩ := hO3_6.val
      refine xl_pure rfl rfl rfl (pv_assign (v := .slice _ _ _) rfl rfl) ?_
      refine xl_nil ?_
      refine xthen_normal ?_
      refine xc_region ?_
      refine xl_pure rfl rfl rfl (pv_move (v := .int _ _) rfl rfl) ?_
      refine xl_pure rfl rfl rfl (pv_shr rfl rfl rfl (by omega) (shr7 m)) ?_
      refine xl_pure rfl rfl rfl (pv_assign (v := .int _ _) rfl rfl) ?_
      refine xl_nil ?_
      refine xblock_normal ?_
      refine xthen_normal ?_
      exact ⟨(m / 128, _, p ++ [UInt8.ofNat (128 + m % 128)]), ⟨rfl, rfl, trivial⟩, next28 (by omega) hf hm hmn hp hown hX hN3_5 hO3_6 hG3_6, by simp only; omega⟩
    · skip
      refine xl_nil ?_
      refine xthen_normal ?_
      refine xc_cond_f rfl ?_
      refine xc_exit ?_
      refine xthen_exit ?_
      refine xthen_exit ?_
      refine xblock_same ?_
      refine xthen_normal ?_
      refine xc_seq ?_
      refine xc_region ?_
      refine xl_pure rfl rfl rfl (pv_move (v := .slice _ _ _) rfl rfl) ?_
      refine xl_pure rfl rfl rfl (pv_move (v := .int _ _) rfl rfl) ?_
      refine xl_pure rfl rfl rfl (pv_conv rfl rfl (fit_u8 (by omega))) ?_
      refine xl_heavy rfl rfl rfl (hv_buildSlice (cs := [.int _ _]) rfl rfl rfl rfl rfl) ?_
      rintro v5_3 H5_3 ⟨b5_3, rfl, hN5_3⟩
      refine xl_heavy rfl rfl rfl (hv_append rfl rfl (hown.ext hN5_3.ext) rfl hN5_3.blk.row rfl (by simp [Value.oneCell']) rfl (by decide) (by omega) (by omega) (Nat.le_trans hX.size hN5_3.ext.size)) ?_
      rintro v5_4 H5_4 ⟨hO5_4, hG5_4, -, -⟩
      obtain ⟨g, c, rfl, hrow, -⟩ := hO5_4.form (by omega)
      refine xl_light rfl rfl rfl (lv_string rfl rfl (by simp) (row28 hrow (by omega))) ?_
      refine xl_pure rfl rfl rfl (pv_assign (v := .string (bs _)) rfl rfl) ?_
      refine xl_nil ?_
      refine xthen_normal ?_
      refine xc_ret ?_
      refine fin_ret (res1 (v := .string (bs _)) rfl rfl) ?_
      exact end28 (by omega) hp hown hX hN5_3 hG5_4

theorem p28i {O : Outer} {H : Heap} (n : Int) (h0 : 0 ≤ n) (hn : n < 18446744073709551616) : FnC Try.prog 52 #[.int .u64 n] O H (fun v H' => v = .string (bs (W n.toNat)) ∧ Ext H H') := by
  obtain ⟨m, rfl⟩ := Int.eq_ofNat_of_zero_le h0
  exact p28 m (by omega)

theorem p8 {O : Outer} {H : Heap} (n : Int) (hn : n < 9223372036854775808) :
    FnC Try.prog 35 #[.int .i64 n] O H (fun v H' => v = .string (bs (uintB n)) ∧ Ext H H') := by
  refine fn_enter (A := [.int .i64 n]) Try.func35 rfl rfl ?_
  refine xc_seq ?_
  refine xc_region ?_
  refine xl_pure rfl rfl rfl (pv_assign (v := .string (bs _)) rfl rfl) ?_
  refine xl_nil ?_
  refine xthen_normal ?_
  refine xc_seq ?_
  refine xc_seq ?_
  refine xc_region ?_
  refine xl_pure rfl rfl rfl (pv_move (v := .int _ _) rfl rfl) ?_
  refine xl_dec rfl rfl rfl (pv_lss rfl rfl rfl) (fun h1_1 => ?_) (fun h1_1 => ?_)
  · skip
    refine xl_nil ?_
    refine xthen_normal ?_
    refine xc_cond_t rfl ?_
    refine xc_seq ?_
    refine xc_region ?_
    refine xl_pure rfl rfl rfl (pv_assign (v := .string (bs _)) rfl rfl) ?_
    refine xl_nil ?_
    refine xthen_normal ?_
    refine xc_ret ?_
    refine xthen_ret ?_
    refine fin_ret (res1 (v := .string (bs _)) rfl rfl) ?_
    exact ⟨by rw [uintB, if_pos h1_1], Ext.refl _⟩
  · skip
    refine xl_nil ?_
    refine xthen_normal ?_
    refine xc_cond_f rfl ?_
    refine xc_skip ?_
    refine xthen_normal ?_
    refine xc_seq ?_
    refine xc_region ?_
    refine xl_pure rfl rfl rfl (pv_move (v := .int _ _) rfl rfl) ?_
    refine xl_pure rfl rfl rfl (pv_conv rfl rfl (fit_u64 (by omega))) ?_
    refine xl_heavy rfl rfl rfl (hv_call (g := 52) rfl rfl (p28i _ (by omega) (by omega)) rfl) ?_
    rintro v3_2 H3_2 ⟨rfl, hE3_2⟩
    refine xl_pure rfl rfl rfl (pv_assign (v := .string (bs _)) rfl rfl) ?_
    refine xl_nil ?_
    refine xthen_normal ?_
    refine xc_ret ?_
    refine fin_ret (res1 (v := .string (bs _)) rfl rfl) ?_
    exact ⟨by rw [uintB, if_neg h1_1], hE3_2⟩

theorem p14 {O : Outer} {H : Heap} (l : List UInt8) :
    FnC Try.prog 38 #[.string (bs l)] O H (fun v H' => ∃ b, v = .pointer (some ⟨b, 0, none⟩) ∧ New H H' b [.string (bs l), .bool false, .bool true] 71) := by
  refine fn_enter (A := [.string (bs l)]) Try.func38 rfl rfl ?_
  refine xc_seq ?_
  refine xc_region ?_
  refine xl_pure rfl rfl rfl (pv_assign (v := .pointer _) rfl rfl) ?_
  refine xl_nil ?_
  refine xthen_normal ?_
  refine xc_seq ?_
  refine xc_region ?_
  refine xl_pure rfl rfl rfl (pv_move (v := .string (bs _)) rfl rfl) ?_
  refine xl_pure rfl rfl rfl (pv_build_s (cs := [.string (bs _), .bool _, .bool _]) rfl rfl rfl) ?_
  refine xl_heavy rfl rfl rfl (hv_box rfl rfl) ?_
  rintro v1_2 H1_2 ⟨b1_2, rfl, hN1_2⟩
  refine xl_pure rfl rfl rfl (pv_assign (v := .pointer _) rfl rfl) ?_
  refine xl_nil ?_
  refine xthen_normal ?_
  refine xc_ret ?_
  refine fin_ret (res1 (v := .pointer _) rfl rfl) ?_
  exact ⟨_, rfl, hN1_2⟩
end Go.XG
