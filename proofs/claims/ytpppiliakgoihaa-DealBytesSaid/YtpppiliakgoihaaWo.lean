/-
  Walks of the seat's functions over the logic XG: each function, what it computes. Printed by a program out of wip/walks.py.
-/
import Derived.Test.YtpppiliakgoihaaI
import Derived.Test.YtpppiliakgoihaaG
import Derived.Test.YtpppiliakgoihaaP
import Derived.Test.YtpppiliakgoihaaWa
import Derived.Test.YtpppiliakgoihaaWb
import Derived.Test.YtpppiliakgoihaaWc
import Derived.Test.YtpppiliakgoihaaWd
import Derived.Test.YtpppiliakgoihaaQ
import Derived.Test.YtpppiliakgoihaaR
import Derived.Test.YtpppiliakgoihaaXg
import Derived.Test.YtpppiliakgoihaaWe
import Derived.Test.YtpppiliakgoihaaWf
import Derived.Test.YtpppiliakgoihaaWg
import Derived.Test.YtpppiliakgoihaaWh
import Derived.Test.YtpppiliakgoihaaWi
import Derived.Test.YtpppiliakgoihaaWj
import Derived.Test.YtpppiliakgoihaaWk
import Derived.Test.YtpppiliakgoihaaV
import Derived.Test.YtpppiliakgoihaaXh
import Derived.Test.YtpppiliakgoihaaWl
import Derived.Test.YtpppiliakgoihaaWm
import Derived.Test.YtpppiliakgoihaaWn
import Derived.Test.YtpppiliakgoihaaU
namespace Go.XG
open Go.Proofs
set_option maxRecDepth 4000
set_option maxHeartbeats 4000000
theorem c6 {O : Outer} {H : Heap} (d : D) (a b : Option Addr) (c e : Nat) :
    FnC Try.prog 6 #[.agg (dcs d a b c e).toArray] O H (fun v H' => ∃ r, v = .bool r ∧ (r = true ↔ d.gives.length ≤ 12 ∧ d.wants.length ≤ 12) ∧ Ext H H') := by
  refine fn_enter (A := [.agg (dcs d a b c e).toArray]) Try.func6 rfl rfl ?_
  have hX := Ext.refl H
  refine xc_seq ?_
  refine xc_region ?_
  refine xl_heavy rfl rfl rfl (hv_box rfl rfl) ?_
  rintro v0_0 H0_0 ⟨b0_0, rfl, hN0_0⟩
  have gb0_0 := hX.fresh hN0_0
  have hX := hX.trans hN0_0.ext
  have m0_0 := hN0_0.blk
  refine xl_pure rfl rfl rfl (pv_assign (v := .bool _) rfl rfl) ?_
  refine xl_nil ?_
  refine xthen_normal ?_
  refine xc_seq ?_
  refine xc_region ?_
  refine xl_pure rfl rfl rfl (pv_fieldAddr rfl rfl) ?_
  refine xl_light rfl rfl rfl (lv_load (v := .slice _ _ _) rfl rfl (ld_blk m0_0 rfl)) ?_
  refine xl_pure rfl rfl rfl (pv_len_l rfl rfl) ?_
  refine xl_dec rfl rfl rfl (pv_leq rfl rfl rfl) (fun h1_3 => ?_) (fun h1_3 => ?_)
  · skip
    refine xl_pure rfl rfl rfl (pv_move (v := .bool _) rfl rfl) ?_
    refine xl_pure rfl rfl rfl (pv_fieldAddr rfl rfl) ?_
    refine xl_light rfl rfl rfl (lv_load (v := .slice _ _ _) rfl rfl (ld_blk m0_0 rfl)) ?_
    refine xl_pure rfl rfl rfl (pv_len_l rfl rfl) ?_
    refine xl_dec rfl rfl rfl (pv_leq rfl rfl rfl) (fun h1_8 => ?_) (fun h1_8 => ?_)
    · skip
      refine xl_pure rfl rfl rfl (pv_pick_t (v := .bool _) rfl rfl rfl) ?_
      refine xl_pure rfl rfl rfl (pv_assign (v := .bool _) rfl rfl) ?_
      refine xl_nil ?_
      refine xthen_normal ?_
      refine xc_ret ?_
      refine fin_ret (res1 (v := .bool _) rfl rfl) ?_
      exact ⟨_, rfl, (by first | exact ⟨fun _ => by ((try unfold Stands at *); (try unfold Free at *); (try unfold Taken at *); (try unfold Due at *); (try unfold Who at *); (try unfold What at *); (try unfold Kin at *); omega), fun _ => rfl⟩ | exact ⟨fun h => absurd h (by decide), fun h => by ((try unfold Stands at *); (try unfold Free at *); (try unfold Taken at *); (try unfold Due at *); (try unfold Who at *); (try unfold What at *); (try unfold Kin at *); omega)⟩), hX⟩
    · skip
      refine xl_pure rfl rfl rfl (pv_pick_t (v := .bool _) rfl rfl rfl) ?_
      refine xl_pure rfl rfl rfl (pv_assign (v := .bool _) rfl rfl) ?_
      refine xl_nil ?_
      refine xthen_normal ?_
      refine xc_ret ?_
      refine fin_ret (res1 (v := .bool _) rfl rfl) ?_
      exact ⟨_, rfl, (by first | exact ⟨fun _ => by ((try unfold Stands at *); (try unfold Free at *); (try unfold Taken at *); (try unfold Due at *); (try unfold Who at *); (try unfold What at *); (try unfold Kin at *); omega), fun _ => rfl⟩ | exact ⟨fun h => absurd h (by decide), fun h => by ((try unfold Stands at *); (try unfold Free at *); (try unfold Taken at *); (try unfold Due at *); (try unfold Who at *); (try unfold What at *); (try unfold Kin at *); omega)⟩), hX⟩
  · skip
    refine xl_pure rfl rfl rfl (pv_move (v := .bool _) rfl rfl) ?_
    refine xl_skip rfl rfl rfl ?_
    refine xl_skip rfl rfl rfl ?_
    refine xl_skip rfl rfl rfl ?_
    refine xl_skip rfl rfl rfl ?_
    refine xl_pure rfl rfl rfl (pv_pick_f (v := .bool _) rfl rfl rfl) ?_
    refine xl_pure rfl rfl rfl (pv_assign (v := .bool _) rfl rfl) ?_
    refine xl_nil ?_
    refine xthen_normal ?_
    refine xc_ret ?_
    refine fin_ret (res1 (v := .bool _) rfl rfl) ?_
    exact ⟨_, rfl, (by first | exact ⟨fun _ => by ((try unfold Stands at *); (try unfold Free at *); (try unfold Taken at *); (try unfold Due at *); (try unfold Who at *); (try unfold What at *); (try unfold Kin at *); omega), fun _ => rfl⟩ | exact ⟨fun h => absurd h (by decide), fun h => by ((try unfold Stands at *); (try unfold Free at *); (try unfold Taken at *); (try unfold Due at *); (try unfold Who at *); (try unfold What at *); (try unfold Kin at *); omega)⟩), hX⟩

theorem c29 {O : Outer} {H : Heap}  :
    FnC Try.prog 29 #[] O H (fun v H' => ∃ a c, v = dv PL a none c 0 ∧ Stks H' a PL.gives ∧ Ext H H') := by
  refine fn_enter (A := []) Try.func29 rfl rfl ?_
  have hX := Ext.refl H
  refine xc_seq ?_
  refine xc_region ?_
  refine xl_heavy rfl rfl rfl (hv_alloc rfl rfl) ?_
  rintro v0_0 H0_0 ⟨b0_0, rfl, hN0_0⟩
  have gb0_0 := hX.fresh hN0_0
  have hX := hX.trans hN0_0.ext
  have m0_0 := hN0_0.blk
  refine xl_nil ?_
  refine xthen_normal ?_
  refine xc_seq ?_
  refine xc_region ?_
  refine xl_pure rfl rfl rfl (pv_build_s (cs := [.int _ _, .int _ _]) rfl rfl rfl) ?_
  refine xl_heavy rfl rfl rfl (hv_buildSlice (cs := [.int _ _, .int _ _]) rfl rfl rfl rfl rfl) ?_
  rintro v1_1 H1_1 ⟨b1_1, rfl, hN1_1⟩
  have gb1_1 := hX.fresh hN1_1
  have nm0_0_1_1 := m0_0.apart hN1_1
  have m0_0 := m0_0.ext hN1_1.ext
  have hX := hX.trans hN1_1.ext
  have m1_1 := hN1_1.blk
  refine xl_pure rfl rfl rfl (pv_build_s (cs := [.int _ _, .int _ _, .int _ _, .int _ _, .int _ _, .int _ _, .int _ _, .int _ _, .int _ _, .int _ _, .int _ _, .int _ _, .int _ _, .slice _ _ _, .slice _ _ _, .int _ _, .int _ _, .int _ _, .int _ _]) rfl rfl rfl) ?_
  refine xl_store rfl rfl (hv_storeA (vs := [.int _ _, .int _ _, .int _ _, .int _ _, .int _ _, .int _ _, .int _ _, .int _ _, .int _ _, .int _ _, .int _ _, .int _ _, .int _ _, .slice _ _ _, .slice _ _ _, .int _ _, .int _ _, .int _ _, .int _ _]) rfl rfl rfl (m0_0) rfl (by rfl) rfl) ?_
  rintro v1_3 H1_3 ⟨hU1_3, hZ1_3⟩
  have m1_1 := m1_1.off hU1_3.but (nm0_0_1_1.symm)
  have hX := hX.upd hU1_3.but gb0_0
  have m0_0 := hU1_3.blk
  refine xl_nil ?_
  refine xthen_normal ?_
  refine xc_ret ?_
  refine fin_ret (resv1 rfl (rv_c (ty := 24) rfl (ld_blk_a m0_0 rfl rfl))) ?_
  exact ⟨_, _, rfl, .inr ⟨_, 0, rfl, stks_row m1_1.row⟩, hX⟩

theorem c24 {O : Outer} {H : Heap} (l : List (List Int)) (a : Option Addr) (c : Nat) (hR : Rows H a 3 l) (hp : Paid l) :
    FnC Try.prog 24 #[.slice a (List.length l) c] O H (fun v H' => v = .int .i64 (tot l) ∧ Ext H H') := by
  refine fn_enter (A := [.slice a (List.length l) c]) Try.func24 rfl rfl ?_
  have hX := Ext.refl H
  refine xc_seq ?_
  refine xc_region ?_
  refine xl_pure rfl rfl rfl (pv_assign (v := .int _ _) rfl rfl) ?_
  refine xl_nil ?_
  refine xthen_normal ?_
  refine xc_seq ?_
  refine xc_region ?_
  refine xl_pure rfl rfl rfl (pv_assign (v := .int _ _) rfl rfl) ?_
  refine xl_nil ?_
  refine xthen_normal ?_
  refine xc_seq ?_
  refine xc_seq ?_
  refine xc_region ?_
  refine xl_pure rfl rfl rfl (pv_assign (v := .int _ _) rfl rfl) ?_
  refine xl_nil ?_
  refine xthen_normal ?_
  refine xc_block ?_
  refine xc_loop (τ := Nat) (fun t => [(0, .slice a (List.length l) c), (3, .int .i64 (tot (l.take t))), (4, .int .i64 (t : Nat))]) (fun t H' => (t ≤ l.length) ∧ (0 ≤ tot (l.take t) ∧ tot (l.take t) ≤ 2305843009213693952 * t) ∧ (Ext H H')) (fun t H' => l.length - t) 0 ?_ ?_ ?_
  · exact ⟨rfl, rfl, rfl, trivial⟩
  · skip
    exact ⟨Nat.zero_le _, by simp [tot], hX⟩
  · intro σ
    clear hX
    rintro i Hl3 ⟨hi, ht, hX⟩
    replace hi : i ≤ l.length := hi
    replace ht : 0 ≤ tot (l.take i) ∧ tot (l.take i) ≤ 2305843009213693952 * i := ht
    replace hX : Ext H Hl3 := hX
    show XC _ _ _ (upds σ [(0, .slice a (List.length l) c), (3, .int .i64 (tot (l.take i))), (4, .int .i64 (i : Nat))]) _
    refine xc_seq ?_
    refine xc_seq ?_
    refine xc_region ?_
    refine xl_pure rfl rfl rfl (pv_move (v := .int _ _) rfl rfl) ?_
    refine xl_pure rfl rfl rfl (pv_move (v := .slice _ _ _) rfl rfl) ?_
    refine xl_pure rfl rfl rfl (pv_len_l rfl rfl) ?_
    refine xl_dec rfl rfl rfl (pv_lss rfl rfl rfl) (fun h3_3 => ?_) (fun h3_3 => ?_)
    · skip
      refine xl_nil ?_
      refine xthen_normal ?_
      refine xc_cond_t rfl ?_
      refine xc_skip ?_
      refine xthen_normal ?_
      refine xc_seq ?_
      refine xc_block ?_
      refine xc_seq ?_
      refine xc_seq ?_
      have hp1 := hp.1
      have hpi := hp.2 i (by omega)
      obtain ⟨ba, off, hae, hsa⟩ := hR.2.resolve_left (by omega)
      subst hae
      refine xc_region ?_
      refine xl_pure rfl rfl rfl (pv_move (v := .slice _ _ _) rfl rfl) ?_
      refine xl_pure rfl rfl rfl (pv_move (v := .int _ _) rfl rfl) ?_
      refine xl_pure rfl rfl rfl (pv_indexAddr_l rfl rfl rfl (by omega)) ?_
      refine xl_pure rfl rfl rfl (pv_fieldAddr rfl rfl) ?_
      refine xl_light rfl rfl rfl (lv_load (v := .int _ _) rfl rfl (by exact ld_num (j := 2) (i := i) (RowsAt.ext hsa hX) hR.1 (by omega) (by omega))) ?_
      refine xl_dec rfl rfl rfl (pv_lss rfl rfl rfl) (fun h5_5 => ?_) (fun h5_5 => ?_)
      · exact absurd h5_5 (by omega)
      · skip
        refine xl_pure rfl rfl rfl (pv_move (v := .bool _) rfl rfl) ?_
        refine xl_pure rfl rfl rfl (pv_move (v := .slice _ _ _) rfl rfl) ?_
        refine xl_pure rfl rfl rfl (pv_move (v := .int _ _) rfl rfl) ?_
        refine xl_pure rfl rfl rfl (pv_indexAddr_l rfl rfl rfl (by omega)) ?_
        refine xl_pure rfl rfl rfl (pv_fieldAddr rfl rfl) ?_
        refine xl_light rfl rfl rfl (lv_load (v := .int _ _) rfl rfl (by exact ld_num (j := 2) (i := i) (RowsAt.ext hsa hX) hR.1 (by omega) (by omega))) ?_
        refine xl_dec rfl rfl rfl (pv_gtr rfl rfl rfl) (fun h5_12 => ?_) (fun h5_12 => ?_)
        · exact absurd h5_12 (by omega)
        · skip
          refine xl_pure rfl rfl rfl (pv_pick_f (v := .bool _) rfl rfl rfl) ?_
          refine xl_pure rfl rfl rfl (pv_move (v := .bool _) rfl rfl) ?_
          refine xl_pure rfl rfl rfl (pv_move (v := .int _ _) rfl rfl) ?_
          refine xl_dec rfl rfl rfl (pv_gtr rfl rfl rfl) (fun h5_16 => ?_) (fun h5_16 => ?_)
          · exact absurd h5_16 (by omega)
          · skip
            refine xl_pure rfl rfl rfl (pv_pick_f (v := .bool _) rfl rfl rfl) ?_
            refine xl_nil ?_
            refine xthen_normal ?_
            refine xc_cond_f rfl ?_
            refine xc_skip ?_
            refine xthen_normal ?_
            refine xc_region ?_
            refine xl_pure rfl rfl rfl (pv_move (v := .int _ _) rfl rfl) ?_
            refine xl_pure rfl rfl rfl (pv_move (v := .slice _ _ _) rfl rfl) ?_
            refine xl_pure rfl rfl rfl (pv_move (v := .int _ _) rfl rfl) ?_
            refine xl_pure rfl rfl rfl (pv_indexAddr_l rfl rfl rfl (by omega)) ?_
            refine xl_pure rfl rfl rfl (pv_fieldAddr rfl rfl) ?_
            refine xl_light rfl rfl rfl (lv_load (v := .int _ _) rfl rfl (by exact ld_num (j := 2) (i := i) (RowsAt.ext hsa hX) hR.1 (by omega) (by omega))) ?_
            refine xl_pure rfl rfl rfl (pv_add rfl rfl rfl (fit_i64 (by omega))) ?_
            refine xl_pure rfl rfl rfl (pv_assign (v := .int _ _) rfl rfl) ?_
            refine xl_nil ?_
            refine xblock_normal ?_
            refine xthen_normal ?_
            refine xc_region ?_
            refine xl_pure rfl rfl rfl (pv_move (v := .int _ _) rfl rfl) ?_
            refine xl_pure rfl rfl rfl (pv_add rfl rfl rfl (fit_i64 (by omega))) ?_
            refine xl_pure rfl rfl rfl (pv_assign (v := .int _ _) rfl rfl) ?_
            refine xl_nil ?_
            refine xthen_normal ?_
            exact ⟨i + 1, ⟨rfl, iv (tot_take (by omega)).symm, rfl, trivial⟩, ⟨by (try simp only); omega, by rw [tot_take (by omega)]; omega, hX⟩, by (try simp only); omega⟩
    · skip
      refine xl_nil ?_
      refine xthen_normal ?_
      refine xc_cond_f rfl ?_
      refine xc_exit ?_
      refine xthen_exit ?_
      refine xthen_exit ?_
      refine xblock_same ?_
      refine xthen_normal ?_
      refine xc_seq ?_
      refine xc_region ?_
      refine xl_pure rfl rfl rfl (pv_move (v := .int _ _) rfl rfl) ?_
      refine xl_pure rfl rfl rfl (pv_assign (v := .int _ _) rfl rfl) ?_
      refine xl_nil ?_
      refine xthen_normal ?_
      refine xc_ret ?_
      refine fin_ret (res1 (v := .int _ _) rfl rfl) ?_
      exact ⟨iv (by rw [List.take_of_length_le (by omega)]), hX⟩

theorem c7 {O : Outer} {H : Heap}  :
    FnC Try.prog 7 #[] O H (fun v H' => v = .bool true ∧ Ext H H') := by
  refine fn_enter (A := []) Try.func7 rfl rfl ?_
  have hX := Ext.refl H
  refine xc_seq ?_
  refine xc_region ?_
  refine xl_pure rfl rfl rfl (pv_assign (v := .bool _) rfl rfl) ?_
  refine xl_nil ?_
  refine xthen_normal ?_
  refine xc_seq ?_
  refine xc_region ?_
  refine xl_heavy rfl rfl rfl (hv_call (g := 29) rfl rfl (c29) rfl) ?_
  rintro v1_0 H1_0 ⟨ap, cp, rfl, hPp, hE1_0⟩
  have hX := hX.trans hE1_0
  have hX1_0 := Ext.refl H1_0
  refine xl_heavy rfl rfl rfl (hv_call (g := 10) rfl rfl (c10 PL _ _ _ _ 7 3 0 (hPp.ext hX1_0) (.inl rfl) (by decide) (by decide)) rfl) ?_
  rintro v1_1 H1_1 ⟨r1_1, x1_1, a1_1, b1_1, c1_1, e1_1, rfl, hd1_1, hs1_1, hE1_1⟩
  have hX := hX.trans hE1_1
  have hX1_0 := hX1_0.trans hE1_1
  have e1_1 := hd1_1.trans (by decide +kernel : takeD PL 7 3 0 = (0, (⟨1, 1, 2, 0, 2, 0, 1, 2, 30, 100, 10, 20, 0, [(1, 5)], [], 2, 27, 3, 0⟩ : D)))
  simp only [Prod.mk.injEq] at e1_1
  obtain ⟨rfl, rfl⟩ := e1_1
  refine xl_pure rfl rfl rfl (pv_move (v := .tuple _) rfl rfl) ?_
  refine xl_pure rfl rfl rfl (pv_extract (v := .agg _) rfl rfl rfl) ?_
  refine xl_pure rfl rfl rfl (pv_extract (v := .int _ _) rfl rfl rfl) ?_
  refine xl_heavy rfl rfl rfl (hv_alloc rfl rfl) ?_
  rintro v1_5 H1_5 ⟨b1_5, rfl, hN1_5⟩
  have gb1_5 := hX.fresh hN1_5
  have gb1_5_hX1_0 := hX1_0.fresh hN1_5
  have hX := hX.trans hN1_5.ext
  have hX1_0 := hX1_0.trans hN1_5.ext
  have m1_5 := hN1_5.blk
  refine xl_store rfl rfl (hv_storeA (vs := [.int _ _, .int _ _, .int _ _, .int _ _, .int _ _, .int _ _, .int _ _, .int _ _, .int _ _, .int _ _, .int _ _, .int _ _, .int _ _, .slice _ _ _, .slice _ _ _, .int _ _, .int _ _, .int _ _, .int _ _]) rfl rfl rfl (m1_5) rfl (by rfl) rfl) ?_
  rintro v1_6 H1_6 ⟨hU1_6, hZ1_6⟩
  have hX1_0 := hX1_0.upd hU1_6.but gb1_5_hX1_0
  have hX := hX.upd hU1_6.but gb1_5
  have m1_5 := hU1_6.blk
  refine xl_pure rfl rfl rfl (pv_assign (v := .int _ _) rfl rfl) ?_
  refine xl_nil ?_
  refine xthen_normal ?_
  refine xc_seq ?_
  refine xc_region ?_
  refine xl_light rfl rfl rfl (lv_load (v := .agg _) rfl rfl (ld_blk_a m1_5 rfl rfl)) ?_
  refine xl_heavy rfl rfl rfl (hv_call (g := 16) rfl rfl (c16 (⟨1, 1, 2, 0, 2, 0, 1, 2, 30, 100, 10, 20, 0, [(1, 5)], [], 2, 27, 3, 0⟩ : D) _ _ _ _ 4 0 (res_g hs1_1 (hPp.ext hX1_0)) (.inl rfl) (by decide) (by decide)) rfl) ?_
  rintro v2_1 H2_1 ⟨e2_1, l2_1, a2_1, c2_1, rfl, hd2_1, hR2_1, hE2_1⟩
  have m1_5 := m1_5.ext hE2_1
  have hX := hX.trans hE2_1
  have hX1_0 := hX1_0.trans hE2_1
  have hX2_1 := Ext.refl H2_1
  have e2_1 := hd2_1.trans (by decide +kernel : sharesD (⟨1, 1, 2, 0, 2, 0, 1, 2, 30, 100, 10, 20, 0, [(1, 5)], [], 2, 27, 3, 0⟩ : D) 4 0 = (0, [[0, 2, 130]]))
  simp only [Prod.mk.injEq] at e2_1
  obtain ⟨rfl, rfl⟩ := e2_1
  refine xl_pure rfl rfl rfl (pv_move (v := .tuple _) rfl rfl) ?_
  refine xl_pure rfl rfl rfl (pv_extract (v := .slice _ _ _) rfl rfl rfl) ?_
  refine xl_pure rfl rfl rfl (pv_extract (v := .int _ _) rfl rfl rfl) ?_
  refine xl_pure rfl rfl rfl (pv_assign (v := .slice _ _ _) rfl rfl) ?_
  refine xl_pure rfl rfl rfl (pv_assign (v := .int _ _) rfl rfl) ?_
  refine xl_nil ?_
  refine xthen_normal ?_
  refine xc_seq ?_
  refine xc_region ?_
  refine xl_light rfl rfl rfl (lv_load (v := .agg _) rfl rfl (ld_blk_a m1_5 rfl rfl)) ?_
  refine xl_heavy rfl rfl rfl (hv_call (g := 12) rfl rfl (c12 (⟨1, 1, 2, 0, 2, 0, 1, 2, 30, 100, 10, 20, 0, [(1, 5)], [], 2, 27, 3, 0⟩ : D) _ _ _ _ 3 (res_g hs1_1 (hPp.ext hX1_0)) (.inl rfl) (by decide) (by decide)) rfl) ?_
  rintro v3_1 H3_1 ⟨r3_1, x3_1, a3_1, b3_1, c3_1, e3_1, rfl, hd3_1, hs3_1, hE3_1⟩
  have m1_5 := m1_5.ext hE3_1
  have hX := hX.trans hE3_1
  have hX1_0 := hX1_0.trans hE3_1
  have hX2_1 := hX2_1.trans hE3_1
  have e3_1 := hd3_1.trans (by decide +kernel : endD (⟨1, 1, 2, 0, 2, 0, 1, 2, 30, 100, 10, 20, 0, [(1, 5)], [], 2, 27, 3, 0⟩ : D) 3 = (0, (⟨1, 1, 2, 0, 2, 0, 1, 2, 30, 100, 10, 20, 0, [(1, 5)], [], 3, 0, 3, 0⟩ : D)))
  simp only [Prod.mk.injEq] at e3_1
  obtain ⟨rfl, rfl⟩ := e3_1
  refine xl_pure rfl rfl rfl (pv_move (v := .tuple _) rfl rfl) ?_
  refine xl_pure rfl rfl rfl (pv_extract (v := .agg _) rfl rfl rfl) ?_
  refine xl_pure rfl rfl rfl (pv_extract (v := .int _ _) rfl rfl rfl) ?_
  refine xl_heavy rfl rfl rfl (hv_alloc rfl rfl) ?_
  rintro v3_5 H3_5 ⟨b3_5, rfl, hN3_5⟩
  have gb3_5 := hX.fresh hN3_5
  have gb3_5_hX1_0 := hX1_0.fresh hN3_5
  have gb3_5_hX2_1 := hX2_1.fresh hN3_5
  have nm1_5_3_5 := m1_5.apart hN3_5
  have m1_5 := m1_5.ext hN3_5.ext
  have hX := hX.trans hN3_5.ext
  have hX1_0 := hX1_0.trans hN3_5.ext
  have hX2_1 := hX2_1.trans hN3_5.ext
  have m3_5 := hN3_5.blk
  refine xl_store rfl rfl (hv_storeA (vs := [.int _ _, .int _ _, .int _ _, .int _ _, .int _ _, .int _ _, .int _ _, .int _ _, .int _ _, .int _ _, .int _ _, .int _ _, .int _ _, .slice _ _ _, .slice _ _ _, .int _ _, .int _ _, .int _ _, .int _ _]) rfl rfl rfl (m3_5) rfl (by rfl) rfl) ?_
  rintro v3_6 H3_6 ⟨hU3_6, hZ3_6⟩
  have hX1_0 := hX1_0.upd hU3_6.but gb3_5_hX1_0
  have hX2_1 := hX2_1.upd hU3_6.but gb3_5_hX2_1
  have m1_5 := m1_5.off hU3_6.but (nm1_5_3_5)
  have hX := hX.upd hU3_6.but gb3_5
  have m3_5 := hU3_6.blk
  refine xl_pure rfl rfl rfl (pv_assign (v := .int _ _) rfl rfl) ?_
  refine xl_nil ?_
  refine xthen_normal ?_
  refine xc_seq ?_
  refine xc_region ?_
  refine xl_light rfl rfl rfl (lv_load (v := .agg _) rfl rfl (ld_blk_a m3_5 rfl rfl)) ?_
  refine xl_heavy rfl rfl rfl (hv_call (g := 12) rfl rfl (c12 (⟨1, 1, 2, 0, 2, 0, 1, 2, 30, 100, 10, 20, 0, [(1, 5)], [], 3, 0, 3, 0⟩ : D) _ _ _ _ 4 (res_g hs3_1 (res_g hs1_1 (hPp.ext hX1_0))) (.inl rfl) (by decide) (by decide)) rfl) ?_
  rintro v4_1 H4_1 ⟨r4_1, x4_1, a4_1, b4_1, c4_1, e4_1, rfl, hd4_1, hs4_1, hE4_1⟩
  have m1_5 := m1_5.ext hE4_1
  have m3_5 := m3_5.ext hE4_1
  have hX := hX.trans hE4_1
  have hX1_0 := hX1_0.trans hE4_1
  have hX2_1 := hX2_1.trans hE4_1
  have e4_1 := hd4_1.trans (by decide +kernel : endD (⟨1, 1, 2, 0, 2, 0, 1, 2, 30, 100, 10, 20, 0, [(1, 5)], [], 3, 0, 3, 0⟩ : D) 4 = (9, D0))
  simp only [Prod.mk.injEq] at e4_1
  obtain ⟨rfl, rfl⟩ := e4_1
  refine xl_pure rfl rfl rfl (pv_move (v := .tuple _) rfl rfl) ?_
  refine xl_pure rfl rfl rfl (pv_extract (v := .agg _) rfl rfl rfl) ?_
  refine xl_pure rfl rfl rfl (pv_extract (v := .int _ _) rfl rfl rfl) ?_
  refine xl_heavy rfl rfl rfl (hv_alloc rfl rfl) ?_
  rintro v4_5 H4_5 ⟨b4_5, rfl, hN4_5⟩
  have gb4_5 := hX.fresh hN4_5
  have gb4_5_hX1_0 := hX1_0.fresh hN4_5
  have gb4_5_hX2_1 := hX2_1.fresh hN4_5
  have nm1_5_4_5 := m1_5.apart hN4_5
  have nm3_5_4_5 := m3_5.apart hN4_5
  have m1_5 := m1_5.ext hN4_5.ext
  have m3_5 := m3_5.ext hN4_5.ext
  have hX := hX.trans hN4_5.ext
  have hX1_0 := hX1_0.trans hN4_5.ext
  have hX2_1 := hX2_1.trans hN4_5.ext
  have m4_5 := hN4_5.blk
  refine xl_store rfl rfl (hv_storeA (vs := [.int _ _, .int _ _, .int _ _, .int _ _, .int _ _, .int _ _, .int _ _, .int _ _, .int _ _, .int _ _, .int _ _, .int _ _, .int _ _, .slice _ _ _, .slice _ _ _, .int _ _, .int _ _, .int _ _, .int _ _]) rfl rfl rfl (m4_5) rfl (by rfl) rfl) ?_
  rintro v4_6 H4_6 ⟨hU4_6, hZ4_6⟩
  have hX1_0 := hX1_0.upd hU4_6.but gb4_5_hX1_0
  have hX2_1 := hX2_1.upd hU4_6.but gb4_5_hX2_1
  have m1_5 := m1_5.off hU4_6.but (nm1_5_4_5)
  have m3_5 := m3_5.off hU4_6.but (nm3_5_4_5)
  have hX := hX.upd hU4_6.but gb4_5
  have m4_5 := hU4_6.blk
  refine xl_pure rfl rfl rfl (pv_assign (v := .int _ _) rfl rfl) ?_
  refine xl_nil ?_
  refine xthen_normal ?_
  refine xc_seq ?_
  refine xc_region ?_
  refine xl_heavy rfl rfl rfl (hv_call (g := 29) rfl rfl (c29) rfl) ?_
  rintro v5_0 H5_0 ⟨aq, cq, rfl, hPq, hE5_0⟩
  have m1_5 := m1_5.ext hE5_0
  have m3_5 := m3_5.ext hE5_0
  have m4_5 := m4_5.ext hE5_0
  have hX := hX.trans hE5_0
  have hX1_0 := hX1_0.trans hE5_0
  have hX2_1 := hX2_1.trans hE5_0
  have hX5_0 := Ext.refl H5_0
  refine xl_heavy rfl rfl rfl (hv_call (g := 14) rfl rfl (c14 PL _ _ _ _  (hPq.ext hX5_0) (.inl rfl) (by decide) (by decide)) rfl) ?_
  rintro v5_1 H5_1 ⟨n5_1, r5_1, rfl, hd5_1, hE5_1⟩
  have m1_5 := m1_5.ext hE5_1
  have m3_5 := m3_5.ext hE5_1
  have m4_5 := m4_5.ext hE5_1
  have hX := hX.trans hE5_1
  have hX1_0 := hX1_0.trans hE5_1
  have hX2_1 := hX2_1.trans hE5_1
  have hX5_0 := hX5_0.trans hE5_1
  have e5_1 := hd5_1.trans (by decide +kernel : lateD PL = (7, 0))
  simp only [Prod.mk.injEq] at e5_1
  obtain ⟨rfl, rfl⟩ := e5_1
  refine xl_pure rfl rfl rfl (pv_move (v := .tuple _) rfl rfl) ?_
  refine xl_pure rfl rfl rfl (pv_extract (v := .int _ _) rfl rfl rfl) ?_
  refine xl_pure rfl rfl rfl (pv_extract (v := .int _ _) rfl rfl rfl) ?_
  refine xl_pure rfl rfl rfl (pv_assign (v := .int _ _) rfl rfl) ?_
  refine xl_pure rfl rfl rfl (pv_assign (v := .int _ _) rfl rfl) ?_
  refine xl_nil ?_
  refine xthen_normal ?_
  refine xc_seq ?_
  refine xc_region ?_
  refine xl_pure rfl rfl rfl (pv_move (v := .int _ _) rfl rfl) ?_
  refine xl_dec rfl rfl rfl (pv_eql rfl rfl rfl) (fun h6_1 => ?_) (fun h6_1 => ?_)
  · skip
    refine xl_pure rfl rfl rfl (pv_move (v := .bool _) rfl rfl) ?_
    refine xl_pure rfl rfl rfl (pv_fieldAddr rfl rfl) ?_
    refine xl_light rfl rfl rfl (lv_load (v := .int _ _) rfl rfl (ld_blk m1_5 rfl)) ?_
    refine xl_dec rfl rfl rfl (pv_eql rfl rfl rfl) (fun h6_5 => ?_) (fun h6_5 => ?_)
    · skip
      refine xl_pure rfl rfl rfl (pv_pick_t (v := .bool _) rfl rfl rfl) ?_
      refine xl_pure rfl rfl rfl (pv_move (v := .bool _) rfl rfl) ?_
      refine xl_pure rfl rfl rfl (pv_fieldAddr rfl rfl) ?_
      refine xl_light rfl rfl rfl (lv_load (v := .int _ _) rfl rfl (ld_blk m1_5 rfl)) ?_
      refine xl_dec rfl rfl rfl (pv_eql rfl rfl rfl) (fun h6_10 => ?_) (fun h6_10 => ?_)
      · skip
        refine xl_pure rfl rfl rfl (pv_pick_t (v := .bool _) rfl rfl rfl) ?_
        refine xl_pure rfl rfl rfl (pv_move (v := .bool _) rfl rfl) ?_
        refine xl_pure rfl rfl rfl (pv_move (v := .int _ _) rfl rfl) ?_
        refine xl_dec rfl rfl rfl (pv_eql rfl rfl rfl) (fun h6_14 => ?_) (fun h6_14 => ?_)
        · skip
          refine xl_pure rfl rfl rfl (pv_pick_t (v := .bool _) rfl rfl rfl) ?_
          refine xl_pure rfl rfl rfl (pv_move (v := .bool _) rfl rfl) ?_
          refine xl_pure rfl rfl rfl (pv_move (v := .slice _ _ _) rfl rfl) ?_
          refine xl_pure rfl rfl rfl (pv_build_s (cs := [.int _ _, .int _ _, .int _ _]) rfl rfl rfl) ?_
          refine xl_heavy rfl rfl rfl (hv_buildSlice (cs := [.int _ _, .int _ _, .int _ _]) rfl rfl rfl rfl rfl) ?_
          rintro v6_19 H6_19 ⟨b6_19, rfl, hN6_19⟩
          have gb6_19 := hX.fresh hN6_19
          have gb6_19_hX1_0 := hX1_0.fresh hN6_19
          have gb6_19_hX2_1 := hX2_1.fresh hN6_19
          have gb6_19_hX5_0 := hX5_0.fresh hN6_19
          have nm1_5_6_19 := m1_5.apart hN6_19
          have nm3_5_6_19 := m3_5.apart hN6_19
          have nm4_5_6_19 := m4_5.apart hN6_19
          have m1_5 := m1_5.ext hN6_19.ext
          have m3_5 := m3_5.ext hN6_19.ext
          have m4_5 := m4_5.ext hN6_19.ext
          have hX := hX.trans hN6_19.ext
          have hX1_0 := hX1_0.trans hN6_19.ext
          have hX2_1 := hX2_1.trans hN6_19.ext
          have hX5_0 := hX5_0.trans hN6_19.ext
          have m6_19 := hN6_19.blk
          refine xl_heavy rfl rfl rfl (hv_call (g := 19) rfl rfl (c19 [[0, 2, 130]] [[0, 2, 130]] _ _ _ _ (hR2_1.ext hX2_1) ⟨wide1, .inr ⟨_, 0, rfl, blk_rows wide1 m6_19 rfl⟩⟩ (by decide)) rfl) ?_
          rintro v6_20 H6_20 ⟨r6_20, rfl, hb6_20, rfl⟩
          obtain rfl : r6_20 = true := hb6_20.2 rfl
          refine xl_pure rfl rfl rfl (pv_pick_t (v := .bool _) rfl rfl rfl) ?_
          refine xl_pure rfl rfl rfl (pv_move (v := .bool _) rfl rfl) ?_
          refine xl_pure rfl rfl rfl (pv_move (v := .int _ _) rfl rfl) ?_
          refine xl_dec rfl rfl rfl (pv_eql rfl rfl rfl) (fun h6_24 => ?_) (fun h6_24 => ?_)
          · skip
            refine xl_pure rfl rfl rfl (pv_pick_t (v := .bool _) rfl rfl rfl) ?_
            refine xl_pure rfl rfl rfl (pv_move (v := .bool _) rfl rfl) ?_
            refine xl_light rfl rfl rfl (lv_load (v := .agg _) rfl rfl (ld_blk_a m3_5 rfl rfl)) ?_
            refine xl_heavy rfl rfl rfl (hv_call (g := 22) rfl rfl (c22 (⟨1, 1, 2, 0, 2, 0, 1, 2, 30, 100, 10, 20, 0, [(1, 5)], [], 3, 0, 3, 0⟩ : D) _ _ _ _) rfl) ?_
            rintro v6_28 H6_28 ⟨r6_28, rfl, hb6_28, hE6_28⟩
            have m1_5 := m1_5.ext hE6_28
            have m3_5 := m3_5.ext hE6_28
            have m4_5 := m4_5.ext hE6_28
            have m6_19 := m6_19.ext hE6_28
            have hX := hX.trans hE6_28
            have hX1_0 := hX1_0.trans hE6_28
            have hX2_1 := hX2_1.trans hE6_28
            have hX5_0 := hX5_0.trans hE6_28
            obtain rfl : r6_28 = true := by exact hb6_28.2 (by decide)
            refine xl_pure rfl rfl rfl (pv_pick_t (v := .bool _) rfl rfl rfl) ?_
            refine xl_pure rfl rfl rfl (pv_move (v := .bool _) rfl rfl) ?_
            refine xl_light rfl rfl rfl (lv_load (v := .agg _) rfl rfl (ld_blk_a m1_5 rfl rfl)) ?_
            refine xl_heavy rfl rfl rfl (hv_call (g := 22) rfl rfl (c22 (⟨1, 1, 2, 0, 2, 0, 1, 2, 30, 100, 10, 20, 0, [(1, 5)], [], 2, 27, 3, 0⟩ : D) _ _ _ _) rfl) ?_
            rintro v6_32 H6_32 ⟨r6_32, rfl, hb6_32, hE6_32⟩
            have m1_5 := m1_5.ext hE6_32
            have m3_5 := m3_5.ext hE6_32
            have m4_5 := m4_5.ext hE6_32
            have m6_19 := m6_19.ext hE6_32
            have hX := hX.trans hE6_32
            have hX1_0 := hX1_0.trans hE6_32
            have hX2_1 := hX2_1.trans hE6_32
            have hX5_0 := hX5_0.trans hE6_32
            obtain rfl : r6_32 = false := by cases r6_32; rfl; exact absurd (hb6_32.1 rfl) (by decide)
            refine xl_pure rfl rfl rfl (pv_not rfl rfl) ?_
            refine xl_pure rfl rfl rfl (pv_pick_t (v := .bool _) rfl rfl rfl) ?_
            refine xl_pure rfl rfl rfl (pv_move (v := .bool _) rfl rfl) ?_
            refine xl_pure rfl rfl rfl (pv_move (v := .int _ _) rfl rfl) ?_
            refine xl_dec rfl rfl rfl (pv_eql rfl rfl rfl) (fun h6_37 => ?_) (fun h6_37 => ?_)
            · skip
              refine xl_pure rfl rfl rfl (pv_pick_t (v := .bool _) rfl rfl rfl) ?_
              refine xl_pure rfl rfl rfl (pv_move (v := .bool _) rfl rfl) ?_
              refine xl_pure rfl rfl rfl (pv_move (v := .int _ _) rfl rfl) ?_
              refine xl_dec rfl rfl rfl (pv_eql rfl rfl rfl) (fun h6_41 => ?_) (fun h6_41 => ?_)
              · skip
                refine xl_pure rfl rfl rfl (pv_pick_t (v := .bool _) rfl rfl rfl) ?_
                refine xl_pure rfl rfl rfl (pv_move (v := .bool _) rfl rfl) ?_
                refine xl_pure rfl rfl rfl (pv_move (v := .int _ _) rfl rfl) ?_
                refine xl_dec rfl rfl rfl (pv_eql rfl rfl rfl) (fun h6_45 => ?_) (fun h6_45 => ?_)
                · skip
                  refine xl_pure rfl rfl rfl (pv_pick_t (v := .bool _) rfl rfl rfl) ?_
                  refine xl_pure rfl rfl rfl (pv_assign (v := .bool _) rfl rfl) ?_
                  refine xl_nil ?_
                  refine xthen_normal ?_
                  refine xc_ret ?_
                  refine fin_ret (res1 (v := .bool _) rfl rfl) ?_
                  exact ⟨rfl, hX⟩
                · exact absurd (by decide) h6_45
              · exact absurd (by decide) h6_41
            · exact absurd (by decide) h6_37
          · exact absurd (by decide) h6_24
        · exact absurd (by decide) h6_14
      · exact absurd (by rfl) h6_10
    · exact absurd (by rfl) h6_5
  · exact absurd (by decide) h6_1
end Go.XG
