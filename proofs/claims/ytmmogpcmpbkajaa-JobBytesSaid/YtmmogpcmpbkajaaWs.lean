/-
  Walks of the seat's functions over the logic XG: each function, what it computes. Printed by a program out of wip/walks.py.
-/
import Derived.Test.YtmmogpcmpbkajaaI
import Derived.Test.YtmmogpcmpbkajaaP
import Derived.Test.YtmmogpcmpbkajaaL
import Derived.Test.YtmmogpcmpbkajaaWa
import Derived.Test.YtmmogpcmpbkajaaWb
import Derived.Test.YtmmogpcmpbkajaaWc
import Derived.Test.YtmmogpcmpbkajaaWd
import Derived.Test.YtmmogpcmpbkajaaWe
import Derived.Test.YtmmogpcmpbkajaaWf
import Derived.Test.YtmmogpcmpbkajaaWg
import Derived.Test.YtmmogpcmpbkajaaWh
import Derived.Test.YtmmogpcmpbkajaaLn
import Derived.Test.YtmmogpcmpbkajaaNa
import Derived.Test.YtmmogpcmpbkajaaNb
import Derived.Test.YtmmogpcmpbkajaaNc
import Derived.Test.YtmmogpcmpbkajaaNd
import Derived.Test.YtmmogpcmpbkajaaNf
import Derived.Test.YtmmogpcmpbkajaaNg
import Derived.Test.YtmmogpcmpbkajaaXk
import Derived.Test.YtmmogpcmpbkajaaB6
import Derived.Test.YtmmogpcmpbkajaaWr
namespace Go.XG
open Go.Proofs Go.Pen
set_option maxRecDepth 4000
set_option maxHeartbeats 4000000
theorem c17 {O : Outer} {H : Heap} (j : J) (a : Option Addr) (c : Nat) (hs : Stks H a j.needs) (hl : j.needs.length ≤ 12) :
    FnC Try.prog 17 #[.agg (jcs j a c).toArray] O H (fun v H' => (¬ Good j ∧ v = .tuple #[.string (bs []), .int .i64 1] ∨ Good j ∧ v = .tuple #[.string (bs (putB j)), .int .i64 0]) ∧ Ext H H') := by
  refine fn_enter (A := [.agg (jcs j a c).toArray]) Try.func17 rfl rfl ?_
  have hX := Ext.refl H
  refine xc_seq ?_
  refine xc_region ?_
  refine xl_heavy rfl rfl rfl (hv_box rfl rfl) ?_
  rintro v0_0 H0_0 ⟨b0_0, rfl, hN0_0⟩
  have gb0_0 := hX.fresh hN0_0
  have hX := hX.trans hN0_0.ext
  have m0_0 := hN0_0.blk
  refine xl_pure rfl rfl rfl (pv_assign (v := .string (bs _)) rfl rfl) ?_
  refine xl_pure rfl rfl rfl (pv_assign (v := .int _ _) rfl rfl) ?_
  refine xl_nil ?_
  refine xthen_normal ?_
  refine xc_seq ?_
  refine xc_seq ?_
  refine xc_region ?_
  refine xl_light rfl rfl rfl (lv_load (v := .agg _) rfl rfl (ld_blk_a m0_0 rfl rfl)) ?_
  refine xl_heavy rfl rfl rfl (hv_call (g := 10) rfl rfl (c10 j a c (hs.ext hX) (by omega)) rfl) ?_
  rintro v1_1 H1_1 ⟨e1_1, rfl, hg1_1, hE1_1⟩
  have m0_0 := m0_0.ext hE1_1
  have hX := hX.trans hE1_1
  rcases hg1_1 with ⟨hg1_1, rfl⟩ | ⟨hg1_1, rfl⟩
  · skip
    refine xl_pure rfl rfl rfl (pv_assign (v := .int _ _) rfl rfl) ?_
    refine xl_nil ?_
    refine xthen_normal ?_
    refine xc_seq ?_
    refine xc_region ?_
    refine xl_pure rfl rfl rfl (pv_move (v := .int _ _) rfl rfl) ?_
    refine xl_ndec rfl rfl rfl (pv_neq rfl rfl rfl) (fun h2_1 => ?_) (fun h2_1 => ?_)
    · skip
      refine xl_nil ?_
      refine xthen_normal ?_
      refine xc_cond_f rfl ?_
      refine xc_skip ?_
      refine xthen_normal ?_
      refine xc_seq ?_
      refine xc_region ?_
      refine xl_heavy rfl rfl rfl (hv_alloc rfl rfl) ?_
      rintro v4_0 H4_0 ⟨b4_0, rfl, hN4_0⟩
      have gb4_0 := hX.fresh hN4_0
      have nm0_0_4_0 := m0_0.apart hN4_0
      have m0_0 := m0_0.ext hN4_0.ext
      have hX := hX.trans hN4_0.ext
      have m4_0 := hN4_0.blk
      refine xl_store rfl rfl (hv_store (vs := [.string (bs _)]) rfl rfl rfl (m4_0) rfl (Nat.le_of_ble_eq_true rfl) rfl) ?_
      rintro v4_1 H4_1 ⟨hU4_1, hZ4_1⟩
      have m0_0 := m0_0.off hU4_1.but (nm0_0_4_0)
      have hX := hX.upd hU4_1.but gb4_0
      have m4_0 := hU4_1.blk
      refine xl_nil ?_
      refine xthen_normal ?_
      refine xc_seq ?_
      refine xc_region ?_
      refine xl_pure rfl rfl rfl (pv_makeFunc (a := []) (b := [.pointer _]) rfl rfl rfl) ?_
      refine xl_pure rfl rfl rfl (pv_assign rfl rfl) ?_
      refine xl_nil ?_
      refine xthen_normal ?_
      refine xc_seq ?_
      refine xc_region ?_
      refine xl_pure rfl rfl rfl (pv_move rfl rfl) ?_
      refine xl_pure rfl rfl rfl (pv_fieldAddr rfl rfl) ?_
      refine xl_light rfl rfl rfl (lv_load (v := .int _ _) rfl rfl (ld_blk m0_0 rfl)) ?_
      refine xl_pure rfl rfl rfl (pv_fieldAddr rfl rfl) ?_
      refine xl_light rfl rfl rfl (lv_load (v := .int _ _) rfl rfl (ld_blk m0_0 rfl)) ?_
      refine xl_pure rfl rfl rfl (pv_fieldAddr rfl rfl) ?_
      refine xl_light rfl rfl rfl (lv_load (v := .int _ _) rfl rfl (ld_blk m0_0 rfl)) ?_
      refine xl_pure rfl rfl rfl (pv_fieldAddr rfl rfl) ?_
      refine xl_light rfl rfl rfl (lv_load (v := .int _ _) rfl rfl (ld_blk m0_0 rfl)) ?_
      refine xl_pure rfl rfl rfl (pv_fieldAddr rfl rfl) ?_
      refine xl_light rfl rfl rfl (lv_load (v := .int _ _) rfl rfl (ld_blk m0_0 rfl)) ?_
      refine xl_pure rfl rfl rfl (pv_fieldAddr rfl rfl) ?_
      refine xl_light rfl rfl rfl (lv_load (v := .int _ _) rfl rfl (ld_blk m0_0 rfl)) ?_
      refine xl_pure rfl rfl rfl (pv_fieldAddr rfl rfl) ?_
      refine xl_light rfl rfl rfl (lv_load (v := .int _ _) rfl rfl (ld_blk m0_0 rfl)) ?_
      refine xl_pure rfl rfl rfl (pv_fieldAddr rfl rfl) ?_
      refine xl_light rfl rfl rfl (lv_load (v := .int _ _) rfl rfl (ld_blk m0_0 rfl)) ?_
      refine xl_pure rfl rfl rfl (pv_fieldAddr rfl rfl) ?_
      refine xl_light rfl rfl rfl (lv_load (v := .int _ _) rfl rfl (ld_blk m0_0 rfl)) ?_
      refine xl_pure rfl rfl rfl (pv_fieldAddr rfl rfl) ?_
      refine xl_light rfl rfl rfl (lv_load (v := .int _ _) rfl rfl (ld_blk m0_0 rfl)) ?_
      refine xl_pure rfl rfl rfl (pv_fieldAddr rfl rfl) ?_
      refine xl_light rfl rfl rfl (lv_load (v := .int _ _) rfl rfl (ld_blk m0_0 rfl)) ?_
      refine xl_pure rfl rfl rfl (pv_fieldAddr rfl rfl) ?_
      refine xl_light rfl rfl rfl (lv_load (v := .slice _ _ _) rfl rfl (ld_blk m0_0 rfl)) ?_
      refine xl_pure rfl rfl rfl (pv_len_l rfl rfl) ?_
      refine xl_heavy rfl rfl rfl (hv_buildSlice (cs := [.int _ _, .int _ _, .int _ _, .int _ _, .int _ _, .int _ _, .int _ _, .int _ _, .int _ _, .int _ _, .int _ _, .int _ _]) rfl rfl rfl rfl rfl) ?_
      rintro v6_26 H6_26 ⟨b6_26, rfl, hN6_26⟩
      have gb6_26 := hX.fresh hN6_26
      have nm0_0_6_26 := m0_0.apart hN6_26
      have nm4_0_6_26 := m4_0.apart hN6_26
      have m0_0 := m0_0.ext hN6_26.ext
      have m4_0 := m4_0.ext hN6_26.ext
      have hX := hX.trans hN6_26.ext
      have m6_26 := hN6_26.blk
      refine xl_heavy rfl rfl rfl (hv_call (g := 34) rfl rfl (c34 [] (n11 j ++ [(j.needs.length : Int)]) _ m6_26 m4_0 nm4_0_6_26.symm (good_12 hg1_1) (by simp [n11])) rfl) ?_
      rintro v6_27 H6_27 hU6_27
      have m0_0 := m0_0.off hU6_27.but (nm0_0_4_0)
      have m6_26 := m6_26.off hU6_27.but (nm4_0_6_26.symm)
      have hX := hX.upd hU6_27.but gb4_0
      have m4_0 := hU6_27.blk
      refine xl_nil ?_
      refine xthen_normal ?_
      refine xc_seq ?_
      refine xc_seq ?_
      refine xc_region ?_
      refine xl_pure rfl rfl rfl (pv_fieldAddr rfl rfl) ?_
      refine xl_light rfl rfl rfl (lv_load (v := .slice _ _ _) rfl rfl (ld_blk m0_0 rfl)) ?_
      refine xl_pure rfl rfl rfl (pv_len_l rfl rfl) ?_
      refine xl_pure rfl rfl rfl (pv_move (v := .int _ _) rfl rfl) ?_
      refine xl_nil ?_
      refine xthen_normal ?_
      refine xc_block ?_
      refine xc_loop (τ := Nat) (fun t => [(1, .pointer (some ⟨b0_0, 0, none⟩)), (5, .pointer (some ⟨b4_0, 0, none⟩)), (6, .func (.func 34) #[] #[.pointer (some ⟨b4_0, 0, none⟩)]), (44, .slice a (List.length j.needs) c), (45, .int .i64 (j.needs.length : Nat)), (46, .int .i64 (t : Nat))]) (fun t H' => (t ≤ j.needs.length) ∧ (Blk H' b0_0 (jcs j a c) 26) ∧ (Blk H' b4_0 [.string (bs (encK (n11 j) ++ (uintB j.needs.length ++ encK (flat (j.needs.take t)))))] 9) ∧ (Apart b0_0 b4_0) ∧ (Ext H H')) (fun t H' => j.needs.length - t) 0 ?_ ?_ ?_
      · exact ⟨rfl, rfl, rfl, rfl, rfl, rfl, trivial⟩
      · skip
        exact ⟨Nat.zero_le _, m0_0, by rw [← put_a]; exact m4_0, nm0_0_4_0, hX⟩
      · intro σ
        clear hX m0_0 m4_0 m6_26
        rintro k Hl8 ⟨hk, m0_0, m4_0, nm0_0_4_0, hX⟩
        replace hk : k ≤ j.needs.length := hk
        replace m0_0 : Blk Hl8 b0_0 (jcs j a c) 26 := m0_0
        replace m4_0 : Blk Hl8 b4_0 [.string (bs (encK (n11 j) ++ (uintB j.needs.length ++ encK (flat (j.needs.take k)))))] 9 := m4_0
        replace nm0_0_4_0 : Apart b0_0 b4_0 := nm0_0_4_0
        replace hX : Ext H Hl8 := hX
        show XC _ _ _ (upds σ [(1, .pointer (some ⟨b0_0, 0, none⟩)), (5, .pointer (some ⟨b4_0, 0, none⟩)), (6, .func (.func 34) #[] #[.pointer (some ⟨b4_0, 0, none⟩)]), (44, .slice a (List.length j.needs) c), (45, .int .i64 (j.needs.length : Nat)), (46, .int .i64 (k : Nat))]) _
        refine xc_seq ?_
        refine xc_region ?_
        refine xl_dec rfl rfl rfl (pv_lss rfl rfl rfl) (fun h8_0 => ?_) (fun h8_0 => ?_)
        · skip
          refine xl_nil ?_
          refine xthen_normal ?_
          refine xc_seq ?_
          refine xc_cond_t rfl ?_
          refine xc_skip ?_
          refine xthen_normal ?_
          refine xc_seq ?_
          refine xc_block ?_
          refine xc_seq ?_
          obtain ⟨ba, off, hae, hsa⟩ := hs.resolve_left (by omega)
          have hil : j.needs.getD k (0, 0) ∈ j.needs := by rw [List.getD_eq_getElem?_getD, List.getElem?_eq_getElem (by omega)]; exact List.getElem_mem _
          have hin := good_n hg1_1
          have hpr : ∀ x ∈ [gx j.needs k, gq j.needs k], InU x := by
            intro x hx; simp only [List.mem_cons, List.not_mem_nil, or_false] at hx; rcases hx with rfl | rfl; exact (hin _ hil).1; exact (hin _ hil).2
          refine xc_region ?_
          refine xl_pure rfl rfl rfl (pv_indexAddr_l rfl (sl_eq hae) rfl (by omega)) ?_
          refine xl_light rfl rfl rfl (lv_load (v := .agg _) rfl rfl (by exact ld_stk (hsa.ext hX) (by omega))) ?_
          refine xl_heavy rfl rfl rfl (hv_alloc rfl rfl) ?_
          rintro v9_2 H9_2 ⟨b9_2, rfl, hN9_2⟩
          have gb9_2 := hX.fresh hN9_2
          have nm0_0_9_2 := m0_0.apart hN9_2
          have nm4_0_9_2 := m4_0.apart hN9_2
          have m0_0 := m0_0.ext hN9_2.ext
          have m4_0 := m4_0.ext hN9_2.ext
          have hX := hX.trans hN9_2.ext
          have m9_2 := hN9_2.blk
          refine xl_store rfl rfl (hv_storeA (vs := [.int _ _, .int _ _]) rfl rfl rfl (m9_2) rfl (by rfl) rfl) ?_
          rintro v9_3 H9_3 ⟨hU9_3, hZ9_3⟩
          have m0_0 := m0_0.off hU9_3.but (nm0_0_9_2)
          have m4_0 := m4_0.off hU9_3.but (nm4_0_9_2)
          have hX := hX.upd hU9_3.but gb9_2
          have m9_2 := hU9_3.blk
          refine xl_nil ?_
          refine xthen_normal ?_
          refine xc_region ?_
          refine xl_pure rfl rfl rfl (pv_move rfl rfl) ?_
          refine xl_pure rfl rfl rfl (pv_fieldAddr rfl rfl) ?_
          refine xl_light rfl rfl rfl (lv_load (v := .int _ _) rfl rfl (ld_blk m9_2 rfl)) ?_
          refine xl_pure rfl rfl rfl (pv_fieldAddr rfl rfl) ?_
          refine xl_light rfl rfl rfl (lv_load (v := .int _ _) rfl rfl (ld_blk m9_2 rfl)) ?_
          refine xl_heavy rfl rfl rfl (hv_buildSlice (cs := [.int _ _, .int _ _]) rfl rfl rfl rfl rfl) ?_
          rintro v10_5 H10_5 ⟨b10_5, rfl, hN10_5⟩
          have gb10_5 := hX.fresh hN10_5
          have nm0_0_10_5 := m0_0.apart hN10_5
          have nm4_0_10_5 := m4_0.apart hN10_5
          have nm9_2_10_5 := m9_2.apart hN10_5
          have m0_0 := m0_0.ext hN10_5.ext
          have m4_0 := m4_0.ext hN10_5.ext
          have m9_2 := m9_2.ext hN10_5.ext
          have hX := hX.trans hN10_5.ext
          have m10_5 := hN10_5.blk
          refine xl_heavy rfl rfl rfl (hv_call (g := 34) rfl rfl (c34 (encK (n11 j) ++ (uintB j.needs.length ++ encK (flat (j.needs.take k)))) [gx j.needs k, gq j.needs k] _ m10_5 m4_0 nm4_0_10_5.symm hpr (by have h1 := encK_len (n11 j); have h2 := uintB_le (j.needs.length : Int); have h3 := encK_len (flat (j.needs.take k)); rw [flat_len] at h3; simp [n11, n4] at *; omega)) rfl) ?_
          rintro v10_6 H10_6 hU10_6
          have m0_0 := m0_0.off hU10_6.but (nm0_0_4_0)
          have m9_2 := m9_2.off hU10_6.but (nm4_0_9_2.symm)
          have m10_5 := m10_5.off hU10_6.but (nm4_0_10_5.symm)
          have hX := hX.upd hU10_6.but gb4_0
          have m4_0 := hU10_6.blk
          refine xl_nil ?_
          refine xblock_normal ?_
          refine xthen_normal ?_
          refine xc_region ?_
          refine xl_pure rfl rfl rfl (pv_add rfl rfl rfl (fit_i64 (by omega))) ?_
          refine xl_pure rfl rfl rfl (pv_move (v := .int _ _) rfl rfl) ?_
          refine xl_nil ?_
          refine xthen_normal ?_
          exact ⟨k + 1, ⟨rfl, rfl, rfl, rfl, rfl, rfl, trivial⟩, ⟨by (try simp only); omega, m0_0, by rw [flat_take (by omega), encK_app]; simpa using m4_0, nm0_0_4_0, hX⟩, by (try simp only); omega⟩
        · skip
          refine xl_nil ?_
          refine xthen_normal ?_
          refine xc_seq ?_
          refine xc_cond_f rfl ?_
          refine xc_exit ?_
          refine xthen_exit ?_
          refine xthen_exit ?_
          refine xblock_same ?_
          refine xthen_normal ?_
          refine xc_seq ?_
          rw [show j.needs.take k = j.needs from List.take_of_length_le (by omega), show uintB j.needs.length ++ encK (flat j.needs) = encL j.needs from rfl] at m4_0
          refine xc_region ?_
          refine xl_pure rfl rfl rfl (pv_move rfl rfl) ?_
          refine xl_pure rfl rfl rfl (pv_fieldAddr rfl rfl) ?_
          refine xl_light rfl rfl rfl (lv_load (v := .int _ _) rfl rfl (ld_blk m0_0 rfl)) ?_
          refine xl_pure rfl rfl rfl (pv_fieldAddr rfl rfl) ?_
          refine xl_light rfl rfl rfl (lv_load (v := .int _ _) rfl rfl (ld_blk m0_0 rfl)) ?_
          refine xl_pure rfl rfl rfl (pv_fieldAddr rfl rfl) ?_
          refine xl_light rfl rfl rfl (lv_load (v := .int _ _) rfl rfl (ld_blk m0_0 rfl)) ?_
          refine xl_pure rfl rfl rfl (pv_fieldAddr rfl rfl) ?_
          refine xl_light rfl rfl rfl (lv_load (v := .int _ _) rfl rfl (ld_blk m0_0 rfl)) ?_
          refine xl_heavy rfl rfl rfl (hv_buildSlice (cs := [.int _ _, .int _ _, .int _ _, .int _ _]) rfl rfl rfl rfl rfl) ?_
          rintro v12_9 H12_9 ⟨b12_9, rfl, hN12_9⟩
          have gb12_9 := hX.fresh hN12_9
          have nm0_0_12_9 := m0_0.apart hN12_9
          have nm4_0_12_9 := m4_0.apart hN12_9
          have m0_0 := m0_0.ext hN12_9.ext
          have m4_0 := m4_0.ext hN12_9.ext
          have hX := hX.trans hN12_9.ext
          have m12_9 := hN12_9.blk
          refine xl_heavy rfl rfl rfl (hv_call (g := 34) rfl rfl (c34 (encK (n11 j) ++ encL j.needs) (n4 j) _ m12_9 m4_0 nm4_0_12_9.symm (good_4 hg1_1) (by have h1 := encK_len (n11 j); have h2 := encL_len j.needs; simp [n11, n4] at *; omega)) rfl) ?_
          rintro v12_10 H12_10 hU12_10
          have m0_0 := m0_0.off hU12_10.but (nm0_0_4_0)
          have m12_9 := m12_9.off hU12_10.but (nm4_0_12_9.symm)
          have hX := hX.upd hU12_10.but gb4_0
          have m4_0 := hU12_10.blk
          refine xl_nil ?_
          refine xthen_normal ?_
          refine xc_seq ?_
          refine xc_region ?_
          refine xl_light rfl rfl rfl (lv_load (v := .string (bs _)) rfl rfl (ld_blk m4_0 rfl)) ?_
          refine xl_pure rfl rfl rfl (pv_assign (v := .string (bs _)) rfl rfl) ?_
          refine xl_pure rfl rfl rfl (pv_assign (v := .int _ _) rfl rfl) ?_
          refine xl_nil ?_
          refine xthen_normal ?_
          refine xc_ret ?_
          refine fin_ret (res2 (v := .string (bs _)) (x := .int _ _) rfl rfl rfl) ?_
          exact ⟨.inr ⟨hg1_1, rfl⟩, hX⟩
    · exact absurd (by decide) h2_1
  · skip
    refine xl_pure rfl rfl rfl (pv_assign (v := .int _ _) rfl rfl) ?_
    refine xl_nil ?_
    refine xthen_normal ?_
    refine xc_seq ?_
    refine xc_region ?_
    refine xl_pure rfl rfl rfl (pv_move (v := .int _ _) rfl rfl) ?_
    refine xl_ndec rfl rfl rfl (pv_neq rfl rfl rfl) (fun h2_1 => ?_) (fun h2_1 => ?_)
    · exact absurd h2_1 (by decide)
    · skip
      refine xl_nil ?_
      refine xthen_normal ?_
      refine xc_cond_t rfl ?_
      refine xc_seq ?_
      refine xc_region ?_
      refine xl_pure rfl rfl rfl (pv_move (v := .int _ _) rfl rfl) ?_
      refine xl_pure rfl rfl rfl (pv_assign (v := .string (bs _)) rfl rfl) ?_
      refine xl_pure rfl rfl rfl (pv_assign (v := .int _ _) rfl rfl) ?_
      refine xl_nil ?_
      refine xthen_normal ?_
      refine xc_ret ?_
      refine xthen_ret ?_
      refine fin_ret (res2 (v := .string (bs _)) (x := .int _ _) rfl rfl rfl) ?_
      exact ⟨.inl ⟨hg1_1, rfl⟩, hX⟩

theorem c18 {O : Outer} {H : Heap} (j : J) (a : Option Addr) (c : Nat) (hs : Stks H a j.needs) (hl : j.needs.length ≤ 12) :
    FnC Try.prog 18 #[.agg (jcs j a c).toArray] O H (fun v H' => (¬ Good j ∧ v = .tuple #[.string (bs []), .int .i64 1] ∨ Good j ∧ v = .tuple #[.string (bs (putB j)), .int .i64 0]) ∧ Ext H H') := by
  refine fn_enter (A := [.agg (jcs j a c).toArray]) Try.func18 rfl rfl ?_
  have hX := Ext.refl H
  refine xc_seq ?_
  refine xc_region ?_
  refine xl_heavy rfl rfl rfl (hv_box rfl rfl) ?_
  rintro v0_0 H0_0 ⟨b0_0, rfl, hN0_0⟩
  have gb0_0 := hX.fresh hN0_0
  have hX := hX.trans hN0_0.ext
  have m0_0 := hN0_0.blk
  refine xl_pure rfl rfl rfl (pv_assign (v := .string (bs _)) rfl rfl) ?_
  refine xl_pure rfl rfl rfl (pv_assign (v := .int _ _) rfl rfl) ?_
  refine xl_nil ?_
  refine xthen_normal ?_
  refine xc_seq ?_
  refine xc_seq ?_
  refine xc_region ?_
  refine xl_light rfl rfl rfl (lv_load (v := .agg _) rfl rfl (ld_blk_a m0_0 rfl rfl)) ?_
  refine xl_heavy rfl rfl rfl (hv_call (g := 13) rfl rfl (c13 j a c (hs.ext hX) (by omega)) rfl) ?_
  rintro v1_1 H1_1 ⟨e1_1, rfl, hg1_1, hE1_1⟩
  have m0_0 := m0_0.ext hE1_1
  have hX := hX.trans hE1_1
  rcases hg1_1 with ⟨hg1_1, rfl⟩ | ⟨hg1_1, rfl⟩
  · skip
    refine xl_ndec rfl rfl rfl (pv_neq rfl rfl rfl) (fun h1_2 => ?_) (fun h1_2 => ?_)
    · skip
      refine xl_nil ?_
      refine xthen_normal ?_
      refine xc_cond_f rfl ?_
      refine xc_skip ?_
      refine xthen_normal ?_
      refine xc_seq ?_
      refine xp_start rfl (by repeat (first | with_reducible exact np_fin | with_reducible refine np_then ?_ | with_reducible refine np_block ?_)) (by kernel_rfl) ?_
      refine xp_pure (i := 0) rfl (by kernel_rfl) (by kernel_rfl) rfl rfl rfl (pv_fieldAddr rfl rfl) ?_
      refine xp_light (i := 1) rfl (by kernel_rfl) (by kernel_rfl) rfl rfl rfl (lv_load (v := .int _ _) rfl rfl (ld_blk m0_0 rfl)) ?_
      refine xp_pure (i := 2) rfl (by kernel_rfl) (by kernel_rfl) rfl rfl rfl (pv_fieldAddr rfl rfl) ?_
      refine xp_light (i := 3) rfl (by kernel_rfl) (by kernel_rfl) rfl rfl rfl (lv_load (v := .int _ _) rfl rfl (ld_blk m0_0 rfl)) ?_
      refine xp_pure (i := 4) rfl (by kernel_rfl) (by kernel_rfl) rfl rfl rfl (pv_fieldAddr rfl rfl) ?_
      refine xp_light (i := 5) rfl (by kernel_rfl) (by kernel_rfl) rfl rfl rfl (lv_load (v := .int _ _) rfl rfl (ld_blk m0_0 rfl)) ?_
      refine xp_pure (i := 6) rfl (by kernel_rfl) (by kernel_rfl) rfl rfl rfl (pv_fieldAddr rfl rfl) ?_
      refine xp_light (i := 7) rfl (by kernel_rfl) (by kernel_rfl) rfl rfl rfl (lv_load (v := .int _ _) rfl rfl (ld_blk m0_0 rfl)) ?_
      refine xp_pure (i := 8) rfl (by kernel_rfl) (by kernel_rfl) rfl rfl rfl (pv_fieldAddr rfl rfl) ?_
      refine xp_light (i := 9) rfl (by kernel_rfl) (by kernel_rfl) rfl rfl rfl (lv_load (v := .int _ _) rfl rfl (ld_blk m0_0 rfl)) ?_
      refine xp_pure (i := 10) rfl (by kernel_rfl) (by kernel_rfl) rfl rfl rfl (pv_fieldAddr rfl rfl) ?_
      refine xp_light (i := 11) rfl (by kernel_rfl) (by kernel_rfl) rfl rfl rfl (lv_load (v := .int _ _) rfl rfl (ld_blk m0_0 rfl)) ?_
      refine xp_pure (i := 12) rfl (by kernel_rfl) (by kernel_rfl) rfl rfl rfl (pv_fieldAddr rfl rfl) ?_
      refine xp_light (i := 13) rfl (by kernel_rfl) (by kernel_rfl) rfl rfl rfl (lv_load (v := .int _ _) rfl rfl (ld_blk m0_0 rfl)) ?_
      refine xp_pure (i := 14) rfl (by kernel_rfl) (by kernel_rfl) rfl rfl rfl (pv_fieldAddr rfl rfl) ?_
      refine xp_light (i := 15) rfl (by kernel_rfl) (by kernel_rfl) rfl rfl rfl (lv_load (v := .int _ _) rfl rfl (ld_blk m0_0 rfl)) ?_
      refine xp_pure (i := 16) rfl (by kernel_rfl) (by kernel_rfl) rfl rfl rfl (pv_fieldAddr rfl rfl) ?_
      refine xp_light (i := 17) rfl (by kernel_rfl) (by kernel_rfl) rfl rfl rfl (lv_load (v := .int _ _) rfl rfl (ld_blk m0_0 rfl)) ?_
      refine xp_pure (i := 18) rfl (by kernel_rfl) (by kernel_rfl) rfl rfl rfl (pv_fieldAddr rfl rfl) ?_
      refine xp_light (i := 19) rfl (by kernel_rfl) (by kernel_rfl) rfl rfl rfl (lv_load (v := .int _ _) rfl rfl (ld_blk m0_0 rfl)) ?_
      refine xp_pure (i := 20) rfl (by kernel_rfl) (by kernel_rfl) rfl rfl rfl (pv_fieldAddr rfl rfl) ?_
      refine xp_light (i := 21) rfl (by kernel_rfl) (by kernel_rfl) rfl rfl rfl (lv_load (v := .int _ _) rfl rfl (ld_blk m0_0 rfl)) ?_
      refine xp_pure (i := 24) rfl (by kernel_rfl) (by kernel_rfl) rfl rfl rfl (pv_fieldAddr rfl rfl) ?_
      refine xp_light (i := 25) rfl (by kernel_rfl) (by kernel_rfl) rfl rfl rfl (lv_load (v := .slice _ _ _) rfl rfl (ld_blk m0_0 rfl)) ?_
      refine xp_pure (i := 28) rfl (by kernel_rfl) (by kernel_rfl) rfl rfl rfl (pv_fieldAddr rfl rfl) ?_
      refine xp_light (i := 29) rfl (by kernel_rfl) (by kernel_rfl) rfl rfl rfl (lv_load (v := .int _ _) rfl rfl (ld_blk m0_0 rfl)) ?_
      refine xp_pure (i := 30) rfl (by kernel_rfl) (by kernel_rfl) rfl rfl rfl (pv_fieldAddr rfl rfl) ?_
      refine xp_light (i := 31) rfl (by kernel_rfl) (by kernel_rfl) rfl rfl rfl (lv_load (v := .int _ _) rfl rfl (ld_blk m0_0 rfl)) ?_
      refine xp_pure (i := 32) rfl (by kernel_rfl) (by kernel_rfl) rfl rfl rfl (pv_fieldAddr rfl rfl) ?_
      refine xp_light (i := 33) rfl (by kernel_rfl) (by kernel_rfl) rfl rfl rfl (lv_load (v := .int _ _) rfl rfl (ld_blk m0_0 rfl)) ?_
      refine xp_pure (i := 34) rfl (by kernel_rfl) (by kernel_rfl) rfl rfl rfl (pv_fieldAddr rfl rfl) ?_
      refine xp_light (i := 35) rfl (by kernel_rfl) (by kernel_rfl) rfl rfl rfl (lv_load (v := .int _ _) rfl rfl (ld_blk m0_0 rfl)) ?_
      refine xp_heavy2 (i := 22) (j := 36) (by kernel_rfl) ?_ ?_
      · skip
        refine xph_val rfl rfl rfl rfl (hv_buildSlice (cs := [.int _ _, .int _ _, .int _ _, .int _ _, .int _ _, .int _ _, .int _ _, .int _ _, .int _ _, .int _ _, .int _ _]) rfl rfl rfl rfl rfl) (pk (by kernel_rfl) (pk (by kernel_rfl) (pk (by kernel_rfl) (pk (by kernel_rfl) (pk (by kernel_rfl) (pd (by kernel_rfl) (pd (by kernel_rfl) (pd (by kernel_rfl) (pd (by kernel_rfl) (pd (by kernel_rfl) (pd (by kernel_rfl) (pd (by kernel_rfl) (pd (by kernel_rfl) (pd (by kernel_rfl) (pd (by kernel_rfl) (pd (by kernel_rfl) pn)))))))))))))))) ?_
        rintro v3_22 H3_22 ⟨b3_22, rfl, hN3_22⟩
        have gb3_22 := hX.fresh hN3_22
        have nm0_0_3_22 := m0_0.apart hN3_22
        have m0_0 := m0_0.ext hN3_22.ext
        have hX := hX.trans hN3_22.ext
        have m3_22 := hN3_22.blk
        refine ⟨(okc (lv_load (v := .int _ _) rfl rfl (ld_blk m0_0 rfl)) (okc (lv_load (v := .int _ _) rfl rfl (ld_blk m0_0 rfl)) (okc (lv_load (v := .int _ _) rfl rfl (ld_blk m0_0 rfl)) (okc (lv_load (v := .int _ _) rfl rfl (ld_blk m0_0 rfl)) (okc (lv_load (v := .slice _ _ _) rfl rfl (ld_blk m0_0 rfl)) okn))))), ?_⟩
        refine xp_heavy2 (i := 23) (j := 36) (by kernel_rfl) ?_ ?_
        · skip
          refine xph_val rfl rfl rfl rfl (hv_call (g := 36) rfl rfl (c36 (n11 j) _ m3_22 (good_11 hg1_1) (by simp [n11])) rfl) (pk (by kernel_rfl) (pk (by kernel_rfl) (pk (by kernel_rfl) (pk (by kernel_rfl) (pk (by kernel_rfl) pn))))) ?_
          rintro v3_23 H3_23 ⟨rfl, hE3_23⟩
          have m0_0 := m0_0.ext hE3_23
          have m3_22 := m3_22.ext hE3_23
          have hX := hX.trans hE3_23
          refine ⟨(okc (lv_load (v := .int _ _) rfl rfl (ld_blk m0_0 rfl)) (okc (lv_load (v := .int _ _) rfl rfl (ld_blk m0_0 rfl)) (okc (lv_load (v := .int _ _) rfl rfl (ld_blk m0_0 rfl)) (okc (lv_load (v := .int _ _) rfl rfl (ld_blk m0_0 rfl)) (okc (lv_load (v := .slice _ _ _) rfl rfl (ld_blk m0_0 rfl)) okn))))), ?_⟩
          refine xp_heavy2 (i := 26) (j := 36) (by kernel_rfl) ?_ ?_
          · skip
            refine xph_val rfl rfl rfl rfl (hv_call (g := 37) rfl rfl (c37 j.needs _ _ (hs.ext hX) (good_n hg1_1) (by omega)) rfl) (pk (by kernel_rfl) (pk (by kernel_rfl) (pk (by kernel_rfl) (pk (by kernel_rfl) (pd (by kernel_rfl) pn))))) ?_
            rintro v3_26 H3_26 ⟨rfl, hE3_26⟩
            have m0_0 := m0_0.ext hE3_26
            have m3_22 := m3_22.ext hE3_26
            have hX := hX.trans hE3_26
            refine ⟨(okc (lv_load (v := .int _ _) rfl rfl (ld_blk m0_0 rfl)) (okc (lv_load (v := .int _ _) rfl rfl (ld_blk m0_0 rfl)) (okc (lv_load (v := .int _ _) rfl rfl (ld_blk m0_0 rfl)) (okc (lv_load (v := .int _ _) rfl rfl (ld_blk m0_0 rfl)) okn)))), ?_⟩
            refine xp_pure (i := 27) rfl (by kernel_rfl) (by kernel_rfl) rfl rfl rfl (pv_add_s rfl rfl rfl (by have h1 := encK_len (n11 j); have h2 := encL_len j.needs; have h4 := encK_len (n4 j); simp [n11, n4] at *; omega)) ?_
            refine xp_heavy (i := 36) (by kernel_rfl) ?_
            refine xph_val rfl rfl rfl rfl (hv_buildSlice (cs := [.int _ _, .int _ _, .int _ _, .int _ _]) rfl rfl rfl rfl rfl) (pd (by kernel_rfl) (pd (by kernel_rfl) (pd (by kernel_rfl) (pd (by kernel_rfl) pn)))) ?_
            rintro v3_36 H3_36 ⟨b3_36, rfl, hN3_36⟩
            have gb3_36 := hX.fresh hN3_36
            have nm0_0_3_36 := m0_0.apart hN3_36
            have nm3_22_3_36 := m3_22.apart hN3_36
            have m0_0 := m0_0.ext hN3_36.ext
            have m3_22 := m3_22.ext hN3_36.ext
            have hX := hX.trans hN3_36.ext
            have m3_36 := hN3_36.blk
            refine ⟨okn, ?_⟩
            refine xp_heavy (i := 37) (by kernel_rfl) ?_
            refine xph_val rfl rfl rfl rfl (hv_call (g := 36) rfl rfl (c36 (n4 j) _ m3_36 (good_4 hg1_1) (by simp [n4])) rfl) pn ?_
            rintro v3_37 H3_37 ⟨rfl, hE3_37⟩
            have m0_0 := m0_0.ext hE3_37
            have m3_22 := m3_22.ext hE3_37
            have m3_36 := m3_36.ext hE3_37
            have hX := hX.trans hE3_37
            refine ⟨okn, ?_⟩
            refine xp_pure (i := 38) rfl (by kernel_rfl) (by kernel_rfl) rfl rfl rfl (pv_add_s rfl rfl rfl (by have h1 := encK_len (n11 j); have h2 := encL_len j.needs; have h4 := encK_len (n4 j); simp [n11, n4] at *; omega)) ?_
            refine xp_pure (i := 39) rfl (by kernel_rfl) (by kernel_rfl) rfl rfl rfl (pv_assign (v := .string (bs _)) rfl rfl) ?_
            refine xp_pure (i := 40) rfl (by kernel_rfl) (by kernel_rfl) rfl rfl rfl (pv_assign (v := .int _ _) rfl rfl) ?_
            refine xp_done (by kernel_rfl) ?_
            refine xthen_normal ?_
            refine xc_ret ?_
            refine fin_ret (res2 (v := .string (bs _)) (x := .int _ _) rfl rfl rfl) ?_
            exact ⟨.inr ⟨hg1_1, rfl⟩, hX⟩
          · skip
            refine xph_val rfl rfl rfl rfl (hv_buildSlice (cs := [.int _ _, .int _ _, .int _ _, .int _ _]) rfl rfl rfl rfl rfl) (pd (by kernel_rfl) (pd (by kernel_rfl) (pd (by kernel_rfl) (pd (by kernel_rfl) (pk (by kernel_rfl) pn))))) ?_
            rintro v3_36 H3_36 ⟨b3_36, rfl, hN3_36⟩
            have gb3_36 := hX.fresh hN3_36
            have nm0_0_3_36 := m0_0.apart hN3_36
            have nm3_22_3_36 := m3_22.apart hN3_36
            have m0_0 := m0_0.ext hN3_36.ext
            have m3_22 := m3_22.ext hN3_36.ext
            have hX := hX.trans hN3_36.ext
            have m3_36 := hN3_36.blk
            refine ⟨(okc (lv_load (v := .slice _ _ _) rfl rfl (ld_blk m0_0 rfl)) okn), ?_⟩
            refine xp_heavy (i := 26) (by kernel_rfl) ?_
            refine xph_val rfl rfl rfl rfl (hv_call (g := 37) rfl rfl (c37 j.needs _ _ (hs.ext hX) (good_n hg1_1) (by omega)) rfl) (pd (by kernel_rfl) pn) ?_
            rintro v3_26 H3_26 ⟨rfl, hE3_26⟩
            have m0_0 := m0_0.ext hE3_26
            have m3_22 := m3_22.ext hE3_26
            have m3_36 := m3_36.ext hE3_26
            have hX := hX.trans hE3_26
            refine ⟨okn, ?_⟩
            refine xp_pure (i := 27) rfl (by kernel_rfl) (by kernel_rfl) rfl rfl rfl (pv_add_s rfl rfl rfl (by have h1 := encK_len (n11 j); have h2 := encL_len j.needs; have h4 := encK_len (n4 j); simp [n11, n4] at *; omega)) ?_
            refine xp_heavy (i := 37) (by kernel_rfl) ?_
            refine xph_val rfl rfl rfl rfl (hv_call (g := 36) rfl rfl (c36 (n4 j) _ m3_36 (good_4 hg1_1) (by simp [n4])) rfl) pn ?_
            rintro v3_37 H3_37 ⟨rfl, hE3_37⟩
            have m0_0 := m0_0.ext hE3_37
            have m3_22 := m3_22.ext hE3_37
            have m3_36 := m3_36.ext hE3_37
            have hX := hX.trans hE3_37
            refine ⟨okn, ?_⟩
            refine xp_pure (i := 38) rfl (by kernel_rfl) (by kernel_rfl) rfl rfl rfl (pv_add_s rfl rfl rfl (by have h1 := encK_len (n11 j); have h2 := encL_len j.needs; have h4 := encK_len (n4 j); simp [n11, n4] at *; omega)) ?_
            refine xp_pure (i := 39) rfl (by kernel_rfl) (by kernel_rfl) rfl rfl rfl (pv_assign (v := .string (bs _)) rfl rfl) ?_
            refine xp_pure (i := 40) rfl (by kernel_rfl) (by kernel_rfl) rfl rfl rfl (pv_assign (v := .int _ _) rfl rfl) ?_
            refine xp_done (by kernel_rfl) ?_
            refine xthen_normal ?_
            refine xc_ret ?_
            refine fin_ret (res2 (v := .string (bs _)) (x := .int _ _) rfl rfl rfl) ?_
            exact ⟨.inr ⟨hg1_1, rfl⟩, hX⟩
        · skip
          refine xph_val rfl rfl rfl rfl (hv_buildSlice (cs := [.int _ _, .int _ _, .int _ _, .int _ _]) rfl rfl rfl rfl rfl) (pd (by kernel_rfl) (pd (by kernel_rfl) (pd (by kernel_rfl) (pd (by kernel_rfl) (pk (by kernel_rfl) pn))))) ?_
          rintro v3_36 H3_36 ⟨b3_36, rfl, hN3_36⟩
          have gb3_36 := hX.fresh hN3_36
          have nm0_0_3_36 := m0_0.apart hN3_36
          have nm3_22_3_36 := m3_22.apart hN3_36
          have m0_0 := m0_0.ext hN3_36.ext
          have m3_22 := m3_22.ext hN3_36.ext
          have hX := hX.trans hN3_36.ext
          have m3_36 := hN3_36.blk
          refine ⟨(okc (lv_load (v := .slice _ _ _) rfl rfl (ld_blk m0_0 rfl)) okn), ?_⟩
          refine xp_heavy (i := 23) (by kernel_rfl) ?_
          refine xph_val rfl rfl rfl rfl (hv_call (g := 36) rfl rfl (c36 (n11 j) _ m3_22 (good_11 hg1_1) (by simp [n11])) rfl) (pk (by kernel_rfl) pn) ?_
          rintro v3_23 H3_23 ⟨rfl, hE3_23⟩
          have m0_0 := m0_0.ext hE3_23
          have m3_22 := m3_22.ext hE3_23
          have m3_36 := m3_36.ext hE3_23
          have hX := hX.trans hE3_23
          refine ⟨(okc (lv_load (v := .slice _ _ _) rfl rfl (ld_blk m0_0 rfl)) okn), ?_⟩
          refine xp_heavy (i := 26) (by kernel_rfl) ?_
          refine xph_val rfl rfl rfl rfl (hv_call (g := 37) rfl rfl (c37 j.needs _ _ (hs.ext hX) (good_n hg1_1) (by omega)) rfl) (pd (by kernel_rfl) pn) ?_
          rintro v3_26 H3_26 ⟨rfl, hE3_26⟩
          have m0_0 := m0_0.ext hE3_26
          have m3_22 := m3_22.ext hE3_26
          have m3_36 := m3_36.ext hE3_26
          have hX := hX.trans hE3_26
          refine ⟨okn, ?_⟩
          refine xp_pure (i := 27) rfl (by kernel_rfl) (by kernel_rfl) rfl rfl rfl (pv_add_s rfl rfl rfl (by have h1 := encK_len (n11 j); have h2 := encL_len j.needs; have h4 := encK_len (n4 j); simp [n11, n4] at *; omega)) ?_
          refine xp_heavy (i := 37) (by kernel_rfl) ?_
          refine xph_val rfl rfl rfl rfl (hv_call (g := 36) rfl rfl (c36 (n4 j) _ m3_36 (good_4 hg1_1) (by simp [n4])) rfl) pn ?_
          rintro v3_37 H3_37 ⟨rfl, hE3_37⟩
          have m0_0 := m0_0.ext hE3_37
          have m3_22 := m3_22.ext hE3_37
          have m3_36 := m3_36.ext hE3_37
          have hX := hX.trans hE3_37
          refine ⟨okn, ?_⟩
          refine xp_pure (i := 38) rfl (by kernel_rfl) (by kernel_rfl) rfl rfl rfl (pv_add_s rfl rfl rfl (by have h1 := encK_len (n11 j); have h2 := encL_len j.needs; have h4 := encK_len (n4 j); simp [n11, n4] at *; omega)) ?_
          refine xp_pure (i := 39) rfl (by kernel_rfl) (by kernel_rfl) rfl rfl rfl (pv_assign (v := .string (bs _)) rfl rfl) ?_
          refine xp_pure (i := 40) rfl (by kernel_rfl) (by kernel_rfl) rfl rfl rfl (pv_assign (v := .int _ _) rfl rfl) ?_
          refine xp_done (by kernel_rfl) ?_
          refine xthen_normal ?_
          refine xc_ret ?_
          refine fin_ret (res2 (v := .string (bs _)) (x := .int _ _) rfl rfl rfl) ?_
          exact ⟨.inr ⟨hg1_1, rfl⟩, hX⟩
      · skip
        refine xph_val rfl rfl rfl rfl (hv_buildSlice (cs := [.int _ _, .int _ _, .int _ _, .int _ _]) rfl rfl rfl rfl rfl) (pd (by kernel_rfl) (pd (by kernel_rfl) (pd (by kernel_rfl) (pd (by kernel_rfl) (pk (by kernel_rfl) (pk (by kernel_rfl) (pk (by kernel_rfl) (pk (by kernel_rfl) (pk (by kernel_rfl) (pk (by kernel_rfl) (pk (by kernel_rfl) (pk (by kernel_rfl) (pk (by kernel_rfl) (pk (by kernel_rfl) (pk (by kernel_rfl) (pk (by kernel_rfl) pn)))))))))))))))) ?_
        rintro v3_36 H3_36 ⟨b3_36, rfl, hN3_36⟩
        have gb3_36 := hX.fresh hN3_36
        have nm0_0_3_36 := m0_0.apart hN3_36
        have m0_0 := m0_0.ext hN3_36.ext
        have hX := hX.trans hN3_36.ext
        have m3_36 := hN3_36.blk
        refine ⟨(okc (lv_load (v := .slice _ _ _) rfl rfl (ld_blk m0_0 rfl)) (okc (lv_load (v := .int _ _) rfl rfl (ld_blk m0_0 rfl)) (okc (lv_load (v := .int _ _) rfl rfl (ld_blk m0_0 rfl)) (okc (lv_load (v := .int _ _) rfl rfl (ld_blk m0_0 rfl)) (okc (lv_load (v := .int _ _) rfl rfl (ld_blk m0_0 rfl)) (okc (lv_load (v := .int _ _) rfl rfl (ld_blk m0_0 rfl)) (okc (lv_load (v := .int _ _) rfl rfl (ld_blk m0_0 rfl)) (okc (lv_load (v := .int _ _) rfl rfl (ld_blk m0_0 rfl)) (okc (lv_load (v := .int _ _) rfl rfl (ld_blk m0_0 rfl)) (okc (lv_load (v := .int _ _) rfl rfl (ld_blk m0_0 rfl)) (okc (lv_load (v := .int _ _) rfl rfl (ld_blk m0_0 rfl)) (okc (lv_load (v := .int _ _) rfl rfl (ld_blk m0_0 rfl)) okn)))))))))))), ?_⟩
        refine xp_heavy (i := 22) (by kernel_rfl) ?_
        refine xph_val rfl rfl rfl rfl (hv_buildSlice (cs := [.int _ _, .int _ _, .int _ _, .int _ _, .int _ _, .int _ _, .int _ _, .int _ _, .int _ _, .int _ _, .int _ _]) rfl rfl rfl rfl rfl) (pk (by kernel_rfl) (pd (by kernel_rfl) (pd (by kernel_rfl) (pd (by kernel_rfl) (pd (by kernel_rfl) (pd (by kernel_rfl) (pd (by kernel_rfl) (pd (by kernel_rfl) (pd (by kernel_rfl) (pd (by kernel_rfl) (pd (by kernel_rfl) (pd (by kernel_rfl) pn)))))))))))) ?_
        rintro v3_22 H3_22 ⟨b3_22, rfl, hN3_22⟩
        have gb3_22 := hX.fresh hN3_22
        have nm0_0_3_22 := m0_0.apart hN3_22
        have nm3_36_3_22 := m3_36.apart hN3_22
        have m0_0 := m0_0.ext hN3_22.ext
        have m3_36 := m3_36.ext hN3_22.ext
        have hX := hX.trans hN3_22.ext
        have m3_22 := hN3_22.blk
        refine ⟨(okc (lv_load (v := .slice _ _ _) rfl rfl (ld_blk m0_0 rfl)) okn), ?_⟩
        refine xp_heavy (i := 23) (by kernel_rfl) ?_
        refine xph_val rfl rfl rfl rfl (hv_call (g := 36) rfl rfl (c36 (n11 j) _ m3_22 (good_11 hg1_1) (by simp [n11])) rfl) (pk (by kernel_rfl) pn) ?_
        rintro v3_23 H3_23 ⟨rfl, hE3_23⟩
        have m0_0 := m0_0.ext hE3_23
        have m3_36 := m3_36.ext hE3_23
        have m3_22 := m3_22.ext hE3_23
        have hX := hX.trans hE3_23
        refine ⟨(okc (lv_load (v := .slice _ _ _) rfl rfl (ld_blk m0_0 rfl)) okn), ?_⟩
        refine xp_heavy (i := 26) (by kernel_rfl) ?_
        refine xph_val rfl rfl rfl rfl (hv_call (g := 37) rfl rfl (c37 j.needs _ _ (hs.ext hX) (good_n hg1_1) (by omega)) rfl) (pd (by kernel_rfl) pn) ?_
        rintro v3_26 H3_26 ⟨rfl, hE3_26⟩
        have m0_0 := m0_0.ext hE3_26
        have m3_36 := m3_36.ext hE3_26
        have m3_22 := m3_22.ext hE3_26
        have hX := hX.trans hE3_26
        refine ⟨okn, ?_⟩
        refine xp_pure (i := 27) rfl (by kernel_rfl) (by kernel_rfl) rfl rfl rfl (pv_add_s rfl rfl rfl (by have h1 := encK_len (n11 j); have h2 := encL_len j.needs; have h4 := encK_len (n4 j); simp [n11, n4] at *; omega)) ?_
        refine xp_heavy (i := 37) (by kernel_rfl) ?_
        refine xph_val rfl rfl rfl rfl (hv_call (g := 36) rfl rfl (c36 (n4 j) _ m3_36 (good_4 hg1_1) (by simp [n4])) rfl) pn ?_
        rintro v3_37 H3_37 ⟨rfl, hE3_37⟩
        have m0_0 := m0_0.ext hE3_37
        have m3_36 := m3_36.ext hE3_37
        have m3_22 := m3_22.ext hE3_37
        have hX := hX.trans hE3_37
        refine ⟨okn, ?_⟩
        refine xp_pure (i := 38) rfl (by kernel_rfl) (by kernel_rfl) rfl rfl rfl (pv_add_s rfl rfl rfl (by have h1 := encK_len (n11 j); have h2 := encL_len j.needs; have h4 := encK_len (n4 j); simp [n11, n4] at *; omega)) ?_
        refine xp_pure (i := 39) rfl (by kernel_rfl) (by kernel_rfl) rfl rfl rfl (pv_assign (v := .string (bs _)) rfl rfl) ?_
        refine xp_pure (i := 40) rfl (by kernel_rfl) (by kernel_rfl) rfl rfl rfl (pv_assign (v := .int _ _) rfl rfl) ?_
        refine xp_done (by kernel_rfl) ?_
        refine xthen_normal ?_
        refine xc_ret ?_
        refine fin_ret (res2 (v := .string (bs _)) (x := .int _ _) rfl rfl rfl) ?_
        exact ⟨.inr ⟨hg1_1, rfl⟩, hX⟩
    · exact absurd (by decide) h1_2
  · skip
    refine xl_ndec rfl rfl rfl (pv_neq rfl rfl rfl) (fun h1_2 => ?_) (fun h1_2 => ?_)
    · exact absurd h1_2 (by decide)
    · skip
      refine xl_nil ?_
      refine xthen_normal ?_
      refine xc_cond_t rfl ?_
      refine xc_seq ?_
      refine xc_region ?_
      refine xl_pure rfl rfl rfl (pv_assign (v := .string (bs _)) rfl rfl) ?_
      refine xl_pure rfl rfl rfl (pv_assign (v := .int _ _) rfl rfl) ?_
      refine xl_nil ?_
      refine xthen_normal ?_
      refine xc_ret ?_
      refine xthen_ret ?_
      refine fin_ret (res2 (v := .string (bs _)) (x := .int _ _) rfl rfl rfl) ?_
      exact ⟨.inl ⟨hg1_1, rfl⟩, hX⟩
end Go.XG
