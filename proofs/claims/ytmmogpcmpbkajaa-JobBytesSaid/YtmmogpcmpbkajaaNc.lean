/-
  Walks of the seat's functions over the logic XG: each function, what it computes. Printed by a program out of wip/walks.py.
-/
import Derived.Test.YtmmogpcmpbkajaaI
import Derived.Test.YtmmogpcmpbkajaaP
import Derived.Test.YtmmogpcmpbkajaaL
import Derived.Test.YtmmogpcmpbkajaaLn
import Derived.Test.YtmmogpcmpbkajaaNa
import Derived.Test.YtmmogpcmpbkajaaNb
namespace Go.XG
open Go.Proofs Go.Pen
set_option maxRecDepth 4000
set_option maxHeartbeats 4000000
theorem p29s {O : Outer} {H : Heap} (f n : Nat) (hf9 : f ≤ 9) (hn : n < 18446744073709551616) (hf : n < 2 * 128 ^ f) (ih : ∀ f', f = f' + 1 → n / 128 < 2 * 128 ^ f' → ∀ H : Heap, FnC Try.prog 59 #[.int .u64 ((n / 128 : Nat) : Int)] O H (fun v H' => v = .string (bs (Wf f' (n / 128))) ∧ Ext H H')) :
    FnC Try.prog 59 #[.int .u64 n] O H (fun v H' => v = .string (bs (Wf f n)) ∧ Ext H H') := by
  refine fn_enter (A := [.int .u64 n]) Try.func59 rfl rfl ?_
  refine xc_seq ?_
  refine xc_region ?_
  refine xl_pure rfl rfl rfl (pv_assign (v := .string (bs _)) rfl rfl) ?_
  refine xl_nil ?_
  refine xthen_normal ?_
  refine xc_seq ?_
  refine xc_seq ?_
  refine xc_region ?_
  refine xl_pure rfl rfl rfl (pv_move (v := .int _ _) rfl rfl) ?_
  refine xl_dec rfl rfl rfl (pv_lss rfl rfl rfl) (fun h1_1 => ?_) (fun h1_1 => ?_)
  · skip
    refine xl_nil ?_
    refine xthen_normal ?_
    refine xc_cond_t rfl ?_
    refine xc_seq ?_
    refine xc_region ?_
    refine xl_pure rfl rfl rfl (pv_move (v := .int _ _) rfl rfl) ?_
    refine xl_pure rfl rfl rfl (pv_conv rfl rfl (fit_u8 (by omega))) ?_
    refine xl_heavy rfl rfl rfl (hv_buildSlice (cs := [.int _ _]) rfl rfl rfl rfl rfl) ?_
    rintro v2_2 H2_2 ⟨b2_2, rfl, hN2_2⟩
    refine xl_light rfl rfl rfl (lv_string rfl rfl rfl (r29 (hN2_2.blk) (by omega))) ?_
    refine xl_pure rfl rfl rfl (pv_assign (v := .string (bs _)) rfl rfl) ?_
    refine xl_nil ?_
    refine xthen_normal ?_
    refine xc_ret ?_
    refine xthen_ret ?_
    refine fin_ret (res1 (v := .string (bs _)) rfl rfl) ?_
    exact ⟨by rw [wf_end _ _ (by omega)], hN2_2.ext⟩
  · skip
    refine xl_nil ?_
    refine xthen_normal ?_
    refine xc_cond_f rfl ?_
    refine xc_skip ?_
    refine xthen_normal ?_
    refine xc_seq ?_
    obtain ⟨f', hff, hf', hw⟩ := wf_step (show 128 ≤ n by omega) hf
    refine xp_start rfl (by repeat (first | with_reducible exact np_fin | with_reducible refine np_then ?_ | with_reducible refine np_block ?_)) (by kernel_rfl) ?_
    refine xp_pure (i := 0) rfl (by kernel_rfl) (by kernel_rfl) rfl rfl rfl (pv_move (v := .int _ _) rfl rfl) ?_
    refine xp_pure (i := 1) rfl (by kernel_rfl) (by kernel_rfl) rfl rfl rfl (pv_rem rfl rfl rfl (by decide)) ?_
    refine xp_pure (i := 2) rfl (by kernel_rfl) (by kernel_rfl) rfl rfl rfl (pv_add rfl rfl rfl (fit_u64 (by rw [tmod128]; omega))) ?_
    refine xp_pure (i := 3) rfl (by kernel_rfl) (by kernel_rfl) rfl rfl rfl (pv_conv rfl rfl (c128 n)) ?_
    refine xp_pure (i := 6) rfl (by kernel_rfl) (by kernel_rfl) rfl rfl rfl (pv_move (v := .int _ _) rfl rfl) ?_
    refine xp_pure (i := 7) rfl (by kernel_rfl) (by kernel_rfl) rfl rfl rfl (pv_quo rfl rfl rfl (by decide) (fit_u64 (by rw [tdiv128]; omega))) ?_
    refine xp_heavy2 (i := 4) (j := 8) (by kernel_rfl) ?_ ?_
    · skip
      refine xph_val rfl rfl rfl rfl (hv_buildSlice (cs := [.int _ _]) rfl rfl rfl rfl rfl) pn ?_
      rintro v3_4 H3_4 ⟨b3_4, rfl, hN3_4⟩
      refine ⟨okn, ?_⟩
      refine xp_light (i := 5) rfl (by kernel_rfl) (by kernel_rfl) rfl rfl rfl (lv_string rfl rfl rfl (by first | exact r29 hN3_4.blk (by omega) | exact r29 (hN3_4.blk.ext hE3_8) (by omega))) ?_
      refine xp_heavy (i := 8) (by kernel_rfl) ?_
      refine xph_val rfl rfl rfl rfl (hv_call (g := 59) rfl rfl (p29c (ih f' hff hf' _)) rfl) (pk (by kernel_rfl) pn) ?_
      rintro v3_8 H3_8 ⟨rfl, hE3_8⟩
      refine ⟨(okc (lv_string rfl rfl rfl (by first | exact r29 hN3_4.blk (by omega) | exact r29 (hN3_4.blk.ext hE3_8) (by omega))) okn), ?_⟩
      refine xp_pure (i := 9) rfl (by kernel_rfl) (by kernel_rfl) rfl rfl rfl (pv_add_s rfl rfl rfl (by have := wf_len f' (n / 128); simp; omega)) ?_
      refine xp_pure (i := 10) rfl (by kernel_rfl) (by kernel_rfl) rfl rfl rfl (pv_assign (v := .string (bs _)) rfl rfl) ?_
      refine xp_done (by kernel_rfl) ?_
      refine xthen_normal ?_
      refine xc_ret ?_
      refine fin_ret (res1 (v := .string (bs _)) rfl rfl) ?_
      refine ⟨?_, by first | exact hN3_4.ext.trans hE3_8 | exact hE3_8.trans hN3_4.ext⟩
      rw [hw]; rfl
    · skip
      refine xph_val rfl rfl rfl rfl (hv_call (g := 59) rfl rfl (p29c (ih f' hff hf' _)) rfl) pn ?_
      rintro v3_8 H3_8 ⟨rfl, hE3_8⟩
      refine ⟨okn, ?_⟩
      refine xp_heavy (i := 4) (by kernel_rfl) ?_
      refine xph_val rfl rfl rfl rfl (hv_buildSlice (cs := [.int _ _]) rfl rfl rfl rfl rfl) pn ?_
      rintro v3_4 H3_4 ⟨b3_4, rfl, hN3_4⟩
      refine ⟨okn, ?_⟩
      refine xp_light (i := 5) rfl (by kernel_rfl) (by kernel_rfl) rfl rfl rfl (lv_string rfl rfl rfl (by first | exact r29 hN3_4.blk (by omega) | exact r29 (hN3_4.blk.ext hE3_8) (by omega))) ?_
      refine xp_pure (i := 9) rfl (by kernel_rfl) (by kernel_rfl) rfl rfl rfl (pv_add_s rfl rfl rfl (by have := wf_len f' (n / 128); simp; omega)) ?_
      refine xp_pure (i := 10) rfl (by kernel_rfl) (by kernel_rfl) rfl rfl rfl (pv_assign (v := .string (bs _)) rfl rfl) ?_
      refine xp_done (by kernel_rfl) ?_
      refine xthen_normal ?_
      refine xc_ret ?_
      refine fin_ret (res1 (v := .string (bs _)) rfl rfl) ?_
      refine ⟨?_, by first | exact hN3_4.ext.trans hE3_8 | exact hE3_8.trans hN3_4.ext⟩
      rw [hw]; rfl

theorem p29 {O : Outer} : ∀ (f n : Nat), f ≤ 9 → n < 18446744073709551616 → n < 2 * 128 ^ f → ∀ H : Heap, FnC Try.prog 59 #[.int .u64 n] O H (fun v H' => v = .string (bs (Wf f n)) ∧ Ext H H')
  | 0, n, h9, hn, hf, H => p29s 0 n h9 hn hf (fun f' e _ _ => by omega)
  | f + 1, n, h9, hn, hf, H => p29s (f + 1) n h9 hn hf (fun f' e hf' H' => by
      obtain rfl : f = f' := by omega
      exact p29 f (n / 128) (by omega) (by omega) hf' H')
theorem p29i {O : Outer} {H : Heap} (n : Int) (h0 : 0 ≤ n) (hn : n < 18446744073709551616) : FnC Try.prog 59 #[.int .u64 n] O H (fun v H' => v = .string (bs (W n.toNat)) ∧ Ext H H') := by
  obtain ⟨m, rfl⟩ := Int.eq_ofNat_of_zero_le h0
  exact p29 9 m (by omega) (by omega) (w_bound (by omega)) H

theorem p9 {O : Outer} {H : Heap} (n : Int) (hn : n < 9223372036854775808) :
    FnC Try.prog 53 #[.int .i64 n] O H (fun v H' => v = .string (bs (uintB n)) ∧ Ext H H') := by
  refine fn_enter (A := [.int .i64 n]) Try.func53 rfl rfl ?_
  refine xc_seq ?_
  refine xc_region ?_
  refine xl_pure rfl rfl rfl (pv_assign (v := .string (bs _)) rfl rfl) ?_
  refine xl_nil ?_
  refine xthen_normal ?_
  refine xc_seq ?_
  refine xc_seq ?_
  refine xc_region ?_
  refine xl_pure rfl rfl rfl (pv_move (v := .int _ _) rfl rfl) ?_
  refine xl_dec rfl rfl rfl (pv_lss rfl rfl rfl) (fun h1_1 => ?_) (fun h1_1 => ?_)
  · skip
    refine xl_nil ?_
    refine xthen_normal ?_
    refine xc_cond_t rfl ?_
    refine xc_seq ?_
    refine xc_region ?_
    refine xl_pure rfl rfl rfl (pv_assign (v := .string (bs _)) rfl rfl) ?_
    refine xl_nil ?_
    refine xthen_normal ?_
    refine xc_ret ?_
    refine xthen_ret ?_
    refine fin_ret (res1 (v := .string (bs _)) rfl rfl) ?_
    exact ⟨by rw [uintB, if_pos h1_1], Ext.refl _⟩
  · skip
    refine xl_nil ?_
    refine xthen_normal ?_
    refine xc_cond_f rfl ?_
    refine xc_skip ?_
    refine xthen_normal ?_
    refine xc_seq ?_
    refine xc_region ?_
    refine xl_pure rfl rfl rfl (pv_move (v := .int _ _) rfl rfl) ?_
    refine xl_pure rfl rfl rfl (pv_conv rfl rfl (fit_u64 (by omega))) ?_
    refine xl_heavy rfl rfl rfl (hv_call (g := 59) rfl rfl (p29i _ (by omega) (by omega)) rfl) ?_
    rintro v3_2 H3_2 ⟨rfl, hE3_2⟩
    refine xl_pure rfl rfl rfl (pv_assign (v := .string (bs _)) rfl rfl) ?_
    refine xl_nil ?_
    refine xthen_normal ?_
    refine xc_ret ?_
    refine fin_ret (res1 (v := .string (bs _)) rfl rfl) ?_
    exact ⟨by rw [uintB, if_neg h1_1], hE3_2⟩
end Go.XG
