/-
  Walks of the seat's functions over the logic XG: each function, what it computes. Printed by a program out of wip/walks.py.
-/
import Derived.Test.YtecjgodbgfollaaI
import Derived.Test.YtecjgodbgfollaaLn
import Derived.Test.YtecjgodbgfollaaNa
import Derived.Test.YtecjgodbgfollaaNb
import Derived.Test.YtecjgodbgfollaaNc
import Derived.Test.YtecjgodbgfollaaNd
import Derived.Test.YtecjgodbgfollaaNf
import Derived.Test.YtecjgodbgfollaaNg
import Derived.Test.YtecjgodbgfollaaE
import Derived.Test.YtecjgodbgfollaaWa
import Derived.Test.YtecjgodbgfollaaWb
import Derived.Test.YtecjgodbgfollaaWc
import Derived.Test.YtecjgodbgfollaaWd
import Derived.Test.YtecjgodbgfollaaWe
import Derived.Test.YtecjgodbgfollaaWf
import Derived.Test.YtecjgodbgfollaaWg
import Derived.Test.YtecjgodbgfollaaWh
import Derived.Test.YtecjgodbgfollaaWi
import Derived.Test.YtecjgodbgfollaaWj
import Derived.Test.YtecjgodbgfollaaE2
import Derived.Test.YtecjgodbgfollaaWk
import Derived.Test.YtecjgodbgfollaaWl
import Derived.Test.YtecjgodbgfollaaE3
namespace Go.XG
open Go.Proofs Go.Pen
set_option maxRecDepth 4000
set_option maxHeartbeats 4000000
theorem c4n {O : Outer} {H : Heap} (l : List (List Int)) (la : Option Addr) (lc : Nat) (hR : Rows H la 4 l) (mo : List (List Int)) (ma : Option Addr) (mc : Nat) (hM : Rows H ma 4 mo) (n0 n1 : Int) (hld : loadL l = none) :
    FnC Try.prog 4 #[.slice la (List.length l) lc, .slice ma (List.length mo) mc, .agg #[.int .i64 n0, .int .i64 n1]] O H (fun v H' => v = .bool true ∧ Ext H H') := by
  refine fn_enter (A := [.slice la (List.length l) lc, .slice ma (List.length mo) mc, .agg #[.int .i64 n0, .int .i64 n1]]) Try.func4 rfl rfl ?_
  have hX := Ext.refl H
  refine xc_seq ?_
  refine xc_region ?_
  refine xl_heavy rfl rfl rfl (hv_box rfl rfl) ?_
  rintro v0_0 H0_0 ⟨b0_0, rfl, hN0_0⟩
  have gb0_0 := hX.fresh hN0_0
  have hX := hX.trans hN0_0.ext
  have m0_0 := hN0_0.blk
  refine xl_pure rfl rfl rfl (pv_assign (v := .bool _) rfl rfl) ?_
  refine xl_nil ?_
  refine xthen_normal ?_
  refine xc_seq ?_
  refine xc_seq ?_
  refine xc_region ?_
  refine xl_pure rfl rfl rfl (pv_move (v := .slice _ _ _) rfl rfl) ?_
  refine xl_pure rfl rfl rfl (pv_len_l rfl rfl) ?_
  refine xl_dec rfl rfl rfl (pv_gtr rfl rfl rfl) (fun h1_2 => ?_) (fun h1_2 => ?_)
  · skip
    refine xl_pure rfl rfl rfl (pv_move (v := .bool _) rfl rfl) ?_
    refine xl_skip rfl rfl rfl ?_
    refine xl_skip rfl rfl rfl ?_
    refine xl_skip rfl rfl rfl ?_
    refine xl_pure rfl rfl rfl (pv_pick_t (v := .bool _) rfl rfl rfl) ?_
    refine xl_nil ?_
    refine xthen_normal ?_
    refine xc_cond_t rfl ?_
    refine xc_seq ?_
    refine xc_region ?_
    refine xl_heavy rfl rfl rfl (hv_call (g := 6) rfl rfl (c6) rfl) ?_
    rintro v2_0 H2_0 ⟨rfl, hE2_0⟩
    have m0_0 := m0_0.ext hE2_0
    have hX := hX.trans hE2_0
    refine xl_pure rfl rfl rfl (pv_assign (v := .bool _) rfl rfl) ?_
    refine xl_nil ?_
    refine xthen_normal ?_
    refine xc_ret ?_
    refine xthen_ret ?_
    refine fin_ret (res1 (v := .bool _) rfl rfl) ?_
    exact ⟨rfl, hX⟩
  · skip
    refine xl_pure rfl rfl rfl (pv_move (v := .bool _) rfl rfl) ?_
    refine xl_pure rfl rfl rfl (pv_move (v := .slice _ _ _) rfl rfl) ?_
    refine xl_pure rfl rfl rfl (pv_len_l rfl rfl) ?_
    refine xl_dec rfl rfl rfl (pv_gtr rfl rfl rfl) (fun h1_6 => ?_) (fun h1_6 => ?_)
    · skip
      refine xl_pure rfl rfl rfl (pv_pick_f (v := .bool _) rfl rfl rfl) ?_
      refine xl_nil ?_
      refine xthen_normal ?_
      refine xc_cond_t rfl ?_
      refine xc_seq ?_
      refine xc_region ?_
      refine xl_heavy rfl rfl rfl (hv_call (g := 6) rfl rfl (c6) rfl) ?_
      rintro v2_0 H2_0 ⟨rfl, hE2_0⟩
      have m0_0 := m0_0.ext hE2_0
      have hX := hX.trans hE2_0
      refine xl_pure rfl rfl rfl (pv_assign (v := .bool _) rfl rfl) ?_
      refine xl_nil ?_
      refine xthen_normal ?_
      refine xc_ret ?_
      refine xthen_ret ?_
      refine fin_ret (res1 (v := .bool _) rfl rfl) ?_
      exact ⟨rfl, hX⟩
    · skip
      refine xl_pure rfl rfl rfl (pv_pick_f (v := .bool _) rfl rfl rfl) ?_
      refine xl_nil ?_
      refine xthen_normal ?_
      refine xc_cond_f rfl ?_
      refine xc_skip ?_
      refine xthen_normal ?_
      refine xc_seq ?_
      have hl00 := m0_0.lt
      have hsz0 := hX.size
      refine xc_region ?_
      refine xl_pure rfl rfl rfl (pv_move (v := .slice _ _ _) rfl rfl) ?_
      refine xl_heavy rfl rfl rfl (hv_call (g := 12) rfl rfl (c12 l la lc (hR.ext hX) (by omega)) rfl) ?_
      rintro v3_1 H3_1 ⟨hc3_1, hE3_1⟩
      have m0_0 := m0_0.ext hE3_1
      have hX := hX.trans hE3_1
      obtain ⟨rfl, -⟩ := hc3_1.resolve_right (fun h => by obtain ⟨_, _, _, _, _, _, h, _⟩ := h; rw [hld] at h; cases h)
      refine xl_pure rfl rfl rfl (pv_move (v := .tuple _) rfl rfl) ?_
      refine xl_pure rfl rfl rfl (pv_extract (v := .pointer _) rfl rfl rfl) ?_
      refine xl_pure rfl rfl rfl (pv_extract (v := .int _ _) rfl rfl rfl) ?_
      refine xl_pure rfl rfl rfl (pv_assign (v := .pointer _) rfl rfl) ?_
      refine xl_pure rfl rfl rfl (pv_assign (v := .int _ _) rfl rfl) ?_
      refine xl_nil ?_
      refine xthen_normal ?_
      refine xc_seq ?_
      refine xc_region ?_
      refine xl_pure rfl rfl rfl (pv_move (v := .slice _ _ _) rfl rfl) ?_
      refine xl_heavy rfl rfl rfl (hv_call (g := 13) rfl rfl (c13 l la lc (hR.ext hX) (by omega)) rfl) ?_
      rintro v4_1 H4_1 ⟨e4_1, x4_1, a4_1, c4_1, rfl, hc4_1, hr4_1, hxl, hxz, hn4_1, hE4_1⟩
      have m0_0 := m0_0.ext hE4_1
      have hX := hX.trans hE4_1
      obtain ⟨rfl, -⟩ := hc4_1.resolve_left (fun h => by have h := h.2; rw [hld] at h; cases h)
      refine xl_pure rfl rfl rfl (pv_move (v := .tuple _) rfl rfl) ?_
      refine xl_pure rfl rfl rfl (pv_extract (v := .slice _ _ _) rfl rfl rfl) ?_
      refine xl_pure rfl rfl rfl (pv_extract (v := .int _ _) rfl rfl rfl) ?_
      refine xl_pure rfl rfl rfl (pv_assign (v := .slice _ _ _) rfl rfl) ?_
      refine xl_pure rfl rfl rfl (pv_assign (v := .int _ _) rfl rfl) ?_
      refine xl_nil ?_
      refine xthen_normal ?_
      refine xc_seq ?_
      refine xc_seq ?_
      refine xc_region ?_
      refine xl_pure rfl rfl rfl (pv_move (v := .int _ _) rfl rfl) ?_
      refine xl_pure rfl rfl rfl (pv_move (v := .int _ _) rfl rfl) ?_
      refine xl_ndec rfl rfl rfl (pv_neq rfl rfl rfl) (fun h5_2 => ?_) (fun h5_2 => ?_)
      · skip
        refine xl_pure rfl rfl rfl (pv_move (v := .bool _) rfl rfl) ?_
        refine xl_pure rfl rfl rfl (pv_move (v := .pointer _) rfl rfl) ?_
        refine xl_pure rfl rfl rfl (pv_neq_nn rfl rfl rfl) ?_
        refine xl_pure rfl rfl rfl (pv_move (v := .int _ _) rfl rfl) ?_
        refine xl_dec rfl rfl rfl (pv_eql rfl rfl rfl) (fun h5_7 => ?_) (fun h5_7 => ?_)
        · exact absurd h5_7 (by decide)
        · skip
          refine xl_pure rfl rfl rfl (pv_neq_b rfl rfl rfl) ?_
          refine xl_pure rfl rfl rfl (pv_pick_f (v := .bool _) rfl rfl rfl) ?_
          refine xl_nil ?_
          refine xthen_normal ?_
          refine xc_cond_f rfl ?_
          refine xc_skip ?_
          refine xthen_normal ?_
          refine xc_seq ?_
          refine xc_seq ?_
          refine xc_region ?_
          refine xl_pure rfl rfl rfl (pv_assign (v := .int _ _) rfl rfl) ?_
          refine xl_nil ?_
          refine xthen_normal ?_
          refine xc_block ?_
          refine xc_loop (τ := Unit) (fun t => [(1, .slice ma (List.length mo) mc), (5, .pointer (some ⟨b0_0, 0, none⟩)), (7, .pointer none), (8, .int .i64 1), (11, .int .i64 0)]) (fun t H' => (Ext H H')) (fun t H' => 0) () ?_ ?_ ?_
          · exact ⟨rfl, rfl, rfl, rfl, rfl, trivial⟩
          · skip
            exact hX
          · intro σ
            clear hX m0_0
            rintro t Hl8 hX
            replace hX : Ext H Hl8 := hX
            show XC _ _ _ (upds σ [(1, .slice ma (List.length mo) mc), (5, .pointer (some ⟨b0_0, 0, none⟩)), (7, .pointer none), (8, .int .i64 1), (11, .int .i64 0)]) _
            refine xc_seq ?_
            refine xc_seq ?_
            refine xc_region ?_
            refine xl_pure rfl rfl rfl (pv_move (v := .int _ _) rfl rfl) ?_
            refine xl_pure rfl rfl rfl (pv_move (v := .slice _ _ _) rfl rfl) ?_
            refine xl_pure rfl rfl rfl (pv_len_l rfl rfl) ?_
            refine xl_dec rfl rfl rfl (pv_lss rfl rfl rfl) (fun h8_3 => ?_) (fun h8_3 => ?_)
            · skip
              refine xl_pure rfl rfl rfl (pv_move (v := .bool _) rfl rfl) ?_
              refine xl_pure rfl rfl rfl (pv_move (v := .int _ _) rfl rfl) ?_
              refine xl_dec rfl rfl rfl (pv_eql rfl rfl rfl) (fun h8_6 => ?_) (fun h8_6 => ?_)
              · exact absurd h8_6 (by decide)
              · skip
                refine xl_pure rfl rfl rfl (pv_pick_t (v := .bool _) rfl rfl rfl) ?_
                refine xl_nil ?_
                refine xthen_normal ?_
                refine xc_cond_f rfl ?_
                refine xc_exit ?_
                refine xthen_exit ?_
                refine xthen_exit ?_
                refine xblock_same ?_
                refine xthen_normal ?_
                refine xc_seq ?_
                refine xc_seq ?_
                refine xc_region ?_
                refine xl_pure rfl rfl rfl (pv_move (v := .int _ _) rfl rfl) ?_
                refine xl_ndec rfl rfl rfl (pv_neq rfl rfl rfl) (fun h14_1 => ?_) (fun h14_1 => ?_)
                · exact absurd h14_1 (by decide)
                · skip
                  refine xl_nil ?_
                  refine xthen_normal ?_
                  refine xc_cond_t rfl ?_
                  refine xc_seq ?_
                  refine xc_region ?_
                  refine xl_heavy rfl rfl rfl (hv_call (g := 6) rfl rfl (c6) rfl) ?_
                  rintro v15_0 H15_0 ⟨rfl, hE15_0⟩
                  have hX := hX.trans hE15_0
                  refine xl_pure rfl rfl rfl (pv_assign (v := .bool _) rfl rfl) ?_
                  refine xl_nil ?_
                  refine xthen_normal ?_
                  refine xc_ret ?_
                  refine xthen_ret ?_
                  refine fin_ret (res1 (v := .bool _) rfl rfl) ?_
                  exact ⟨rfl, hX⟩
            · skip
              refine xl_pure rfl rfl rfl (pv_move (v := .bool _) rfl rfl) ?_
              refine xl_skip rfl rfl rfl ?_
              refine xl_skip rfl rfl rfl ?_
              refine xl_pure rfl rfl rfl (pv_pick_f (v := .bool _) rfl rfl rfl) ?_
              refine xl_nil ?_
              refine xthen_normal ?_
              refine xc_cond_f rfl ?_
              refine xc_exit ?_
              refine xthen_exit ?_
              refine xthen_exit ?_
              refine xblock_same ?_
              refine xthen_normal ?_
              refine xc_seq ?_
              refine xc_seq ?_
              refine xc_region ?_
              refine xl_pure rfl rfl rfl (pv_move (v := .int _ _) rfl rfl) ?_
              refine xl_ndec rfl rfl rfl (pv_neq rfl rfl rfl) (fun h14_1 => ?_) (fun h14_1 => ?_)
              · exact absurd h14_1 (by decide)
              · skip
                refine xl_nil ?_
                refine xthen_normal ?_
                refine xc_cond_t rfl ?_
                refine xc_seq ?_
                refine xc_region ?_
                refine xl_heavy rfl rfl rfl (hv_call (g := 6) rfl rfl (c6) rfl) ?_
                rintro v15_0 H15_0 ⟨rfl, hE15_0⟩
                have hX := hX.trans hE15_0
                refine xl_pure rfl rfl rfl (pv_assign (v := .bool _) rfl rfl) ?_
                refine xl_nil ?_
                refine xthen_normal ?_
                refine xc_ret ?_
                refine xthen_ret ?_
                refine fin_ret (res1 (v := .bool _) rfl rfl) ?_
                exact ⟨rfl, hX⟩
      · exact absurd (by decide) h5_2

theorem c4s {O : Outer} {H : Heap} (l : List (List Int)) (la : Option Addr) (lc : Nat) (hR : Rows H la 4 l) (mo : List (List Int)) (ma : Option Addr) (mc : Nat) (hM : Rows H ma 4 mo) (n0 n1 : Int) (x0 : List (List Int)) (hld : loadL l = some x0) :
    FnC Try.prog 4 #[.slice la (List.length l) lc, .slice ma (List.length mo) mc, .agg #[.int .i64 n0, .int .i64 n1]] O H (fun v H' => v = .bool true ∧ Ext H H') := by
  refine fn_enter (A := [.slice la (List.length l) lc, .slice ma (List.length mo) mc, .agg #[.int .i64 n0, .int .i64 n1]]) Try.func4 rfl rfl ?_
  have hX := Ext.refl H
  refine xc_seq ?_
  refine xc_region ?_
  refine xl_heavy rfl rfl rfl (hv_box rfl rfl) ?_
  rintro v0_0 H0_0 ⟨b0_0, rfl, hN0_0⟩
  have gb0_0 := hX.fresh hN0_0
  have hX := hX.trans hN0_0.ext
  have m0_0 := hN0_0.blk
  refine xl_pure rfl rfl rfl (pv_assign (v := .bool _) rfl rfl) ?_
  refine xl_nil ?_
  refine xthen_normal ?_
  refine xc_seq ?_
  refine xc_seq ?_
  refine xc_region ?_
  refine xl_pure rfl rfl rfl (pv_move (v := .slice _ _ _) rfl rfl) ?_
  refine xl_pure rfl rfl rfl (pv_len_l rfl rfl) ?_
  refine xl_dec rfl rfl rfl (pv_gtr rfl rfl rfl) (fun h1_2 => ?_) (fun h1_2 => ?_)
  · skip
    refine xl_pure rfl rfl rfl (pv_move (v := .bool _) rfl rfl) ?_
    refine xl_skip rfl rfl rfl ?_
    refine xl_skip rfl rfl rfl ?_
    refine xl_skip rfl rfl rfl ?_
    refine xl_pure rfl rfl rfl (pv_pick_t (v := .bool _) rfl rfl rfl) ?_
    refine xl_nil ?_
    refine xthen_normal ?_
    refine xc_cond_t rfl ?_
    refine xc_seq ?_
    refine xc_region ?_
    refine xl_heavy rfl rfl rfl (hv_call (g := 6) rfl rfl (c6) rfl) ?_
    rintro v2_0 H2_0 ⟨rfl, hE2_0⟩
    have m0_0 := m0_0.ext hE2_0
    have hX := hX.trans hE2_0
    refine xl_pure rfl rfl rfl (pv_assign (v := .bool _) rfl rfl) ?_
    refine xl_nil ?_
    refine xthen_normal ?_
    refine xc_ret ?_
    refine xthen_ret ?_
    refine fin_ret (res1 (v := .bool _) rfl rfl) ?_
    exact ⟨rfl, hX⟩
  · skip
    refine xl_pure rfl rfl rfl (pv_move (v := .bool _) rfl rfl) ?_
    refine xl_pure rfl rfl rfl (pv_move (v := .slice _ _ _) rfl rfl) ?_
    refine xl_pure rfl rfl rfl (pv_len_l rfl rfl) ?_
    refine xl_dec rfl rfl rfl (pv_gtr rfl rfl rfl) (fun h1_6 => ?_) (fun h1_6 => ?_)
    · skip
      refine xl_pure rfl rfl rfl (pv_pick_f (v := .bool _) rfl rfl rfl) ?_
      refine xl_nil ?_
      refine xthen_normal ?_
      refine xc_cond_t rfl ?_
      refine xc_seq ?_
      refine xc_region ?_
      refine xl_heavy rfl rfl rfl (hv_call (g := 6) rfl rfl (c6) rfl) ?_
      rintro v2_0 H2_0 ⟨rfl, hE2_0⟩
      have m0_0 := m0_0.ext hE2_0
      have hX := hX.trans hE2_0
      refine xl_pure rfl rfl rfl (pv_assign (v := .bool _) rfl rfl) ?_
      refine xl_nil ?_
      refine xthen_normal ?_
      refine xc_ret ?_
      refine xthen_ret ?_
      refine fin_ret (res1 (v := .bool _) rfl rfl) ?_
      exact ⟨rfl, hX⟩
    · skip
      refine xl_pure rfl rfl rfl (pv_pick_f (v := .bool _) rfl rfl rfl) ?_
      refine xl_nil ?_
      refine xthen_normal ?_
      refine xc_cond_f rfl ?_
      refine xc_skip ?_
      refine xthen_normal ?_
      refine xc_seq ?_
      have hl00 := m0_0.lt
      have hsz0 := hX.size
      refine xc_region ?_
      refine xl_pure rfl rfl rfl (pv_move (v := .slice _ _ _) rfl rfl) ?_
      refine xl_heavy rfl rfl rfl (hv_call (g := 12) rfl rfl (c12 l la lc (hR.ext hX) (by omega)) rfl) ?_
      rintro v3_1 H3_1 ⟨hc3_1, hE3_1⟩
      have m0_0 := m0_0.ext hE3_1
      have hX := hX.trans hE3_1
      obtain ⟨p, va, vc, mv, x, rfl, hld2, hg⟩ := hc3_1.resolve_left (fun h => by rw [hld] at h; cases h.2)
      obtain rfl : x0 = x := by rw [hld] at hld2; injection hld2
      refine xl_pure rfl rfl rfl (pv_move (v := .tuple _) rfl rfl) ?_
      refine xl_pure rfl rfl rfl (pv_extract (v := .pointer _) rfl rfl rfl) ?_
      refine xl_pure rfl rfl rfl (pv_extract (v := .int _ _) rfl rfl rfl) ?_
      refine xl_pure rfl rfl rfl (pv_assign (v := .pointer _) rfl rfl) ?_
      refine xl_pure rfl rfl rfl (pv_assign (v := .int _ _) rfl rfl) ?_
      refine xl_nil ?_
      refine xthen_normal ?_
      refine xc_seq ?_
      refine xc_region ?_
      refine xl_pure rfl rfl rfl (pv_move (v := .slice _ _ _) rfl rfl) ?_
      refine xl_heavy rfl rfl rfl (hv_call (g := 13) rfl rfl (c13 l la lc (hR.ext hX) (by omega)) rfl) ?_
      rintro v4_1 H4_1 ⟨e4_1, x4_1, a4_1, c4_1, rfl, hc4_1, hr4_1, hxl, hxz, hn4_1, hE4_1⟩
      have m0_0 := m0_0.ext hE4_1
      have hX := hX.trans hE4_1
      obtain ⟨rfl, hxe⟩ := hc4_1.resolve_right (fun h => by rw [hld] at h; cases h.2)
      obtain rfl : x0 = x4_1 := by rw [hld] at hxe; injection hxe
      have hx := RowsF.new hr4_1 hn4_1 (fun i hi => (hg.ft i hi).2)
      have hg := hg.ext hE4_1
      refine xl_pure rfl rfl rfl (pv_move (v := .tuple _) rfl rfl) ?_
      refine xl_pure rfl rfl rfl (pv_extract (v := .slice _ _ _) rfl rfl rfl) ?_
      refine xl_pure rfl rfl rfl (pv_extract (v := .int _ _) rfl rfl rfl) ?_
      refine xl_pure rfl rfl rfl (pv_assign (v := .slice _ _ _) rfl rfl) ?_
      refine xl_pure rfl rfl rfl (pv_assign (v := .int _ _) rfl rfl) ?_
      refine xl_nil ?_
      refine xthen_normal ?_
      refine xc_seq ?_
      refine xc_seq ?_
      refine xc_region ?_
      refine xl_pure rfl rfl rfl (pv_move (v := .int _ _) rfl rfl) ?_
      refine xl_pure rfl rfl rfl (pv_move (v := .int _ _) rfl rfl) ?_
      refine xl_ndec rfl rfl rfl (pv_neq rfl rfl rfl) (fun h5_2 => ?_) (fun h5_2 => ?_)
      · skip
        refine xl_pure rfl rfl rfl (pv_move (v := .bool _) rfl rfl) ?_
        refine xl_pure rfl rfl rfl (pv_move (v := .pointer _) rfl rfl) ?_
        refine xl_pure rfl rfl rfl (pv_neq_pn rfl rfl rfl) ?_
        refine xl_pure rfl rfl rfl (pv_move (v := .int _ _) rfl rfl) ?_
        refine xl_dec rfl rfl rfl (pv_eql rfl rfl rfl) (fun h5_7 => ?_) (fun h5_7 => ?_)
        · skip
          refine xl_pure rfl rfl rfl (pv_neq_b rfl rfl rfl) ?_
          refine xl_pure rfl rfl rfl (pv_pick_f (v := .bool _) rfl rfl rfl) ?_
          refine xl_nil ?_
          refine xthen_normal ?_
          refine xc_cond_f rfl ?_
          refine xc_skip ?_
          refine xthen_normal ?_
          refine xc_seq ?_
          refine xc_seq ?_
          refine xc_region ?_
          refine xl_pure rfl rfl rfl (pv_assign (v := .int _ _) rfl rfl) ?_
          refine xl_nil ?_
          refine xthen_normal ?_
          refine xc_block ?_
          refine xc_loop (τ := List (List Int) × Option Addr × Nat × Option Nat × Option Addr × Nat × Nat) (fun t => [(1, .slice ma (List.length mo) mc), (5, .pointer (some ⟨b0_0, 0, none⟩)), (7, .pointer (some ⟨p, 0, none⟩)), (8, .int .i64 0), (9, .slice t.2.2.2.2.1 (List.length t.1) t.2.2.2.2.2.1), (11, .int .i64 (t.2.2.2.2.2.2 : Nat))]) (fun t H' => (t.2.2.2.2.2.2 ≤ mo.length) ∧ (LogAt H' H0_0.size p t.2.1 t.2.2.1 t.2.2.2.1 t.1) ∧ (RowsF (Ft p t.2.1 t.2.2.2.1) H' t.2.2.2.2.1 4 t.1) ∧ (t.1.length ≤ 128) ∧ (t.2.2.2.2.1 = none → t.2.2.2.2.2.1 = 0) ∧ (Blk H' b0_0 [.int .i64 n0, .int .i64 n1] 38) ∧ (Ext H H')) (fun t H' => mo.length - t.2.2.2.2.2.2) (x0, va, vc, mv, a4_1, c4_1, 0) ?_ ?_ ?_
          · exact ⟨rfl, rfl, rfl, rfl, rfl, rfl, trivial⟩
          · skip
            exact ⟨Nat.zero_le _, hg, hx, hxl, hxz, m0_0, hX⟩
          · intro σ
            clear hX m0_0 hg hx hxl hxz
            rintro ⟨x, va, vc, mv, xa, xc, i⟩ Hl8 ⟨hi, hg, hx, hxl, hxz, m0_0, hX⟩
            replace hi : i ≤ mo.length := hi
            replace hg : LogAt Hl8 H0_0.size p va vc mv x := hg
            replace hx : RowsF (Ft p va mv) Hl8 xa 4 x := hx
            replace hxl : x.length ≤ 128 := hxl
            replace hxz : xa = none → xc = 0 := hxz
            replace m0_0 : Blk Hl8 b0_0 [.int .i64 n0, .int .i64 n1] 38 := m0_0
            replace hX : Ext H Hl8 := hX
            show XC _ _ _ (upds σ [(1, .slice ma (List.length mo) mc), (5, .pointer (some ⟨b0_0, 0, none⟩)), (7, .pointer (some ⟨p, 0, none⟩)), (8, .int .i64 0), (9, .slice xa (List.length x) xc), (11, .int .i64 (i : Nat))]) _
            refine xc_seq ?_
            refine xc_seq ?_
            refine xc_region ?_
            refine xl_pure rfl rfl rfl (pv_move (v := .int _ _) rfl rfl) ?_
            refine xl_pure rfl rfl rfl (pv_move (v := .slice _ _ _) rfl rfl) ?_
            refine xl_pure rfl rfl rfl (pv_len_l rfl rfl) ?_
            refine xl_dec rfl rfl rfl (pv_lss rfl rfl rfl) (fun h8_3 => ?_) (fun h8_3 => ?_)
            · skip
              refine xl_pure rfl rfl rfl (pv_move (v := .bool _) rfl rfl) ?_
              refine xl_pure rfl rfl rfl (pv_move (v := .int _ _) rfl rfl) ?_
              refine xl_dec rfl rfl rfl (pv_eql rfl rfl rfl) (fun h8_6 => ?_) (fun h8_6 => ?_)
              · skip
                refine xl_pure rfl rfl rfl (pv_pick_t (v := .bool _) rfl rfl rfl) ?_
                refine xl_nil ?_
                refine xthen_normal ?_
                refine xc_cond_t rfl ?_
                refine xc_skip ?_
                refine xthen_normal ?_
                refine xc_seq ?_
                refine xc_block ?_
                refine xc_seq ?_
                obtain ⟨ba, off, hae, hsa⟩ := hM.2.resolve_left (by omega)
                have hgo := hg
                refine xc_region ?_
                refine xl_pure rfl rfl rfl (pv_move (v := .slice _ _ _) rfl rfl) ?_
                refine xl_pure rfl rfl rfl (pv_move (v := .slice _ _ _) rfl rfl) ?_
                refine xl_pure rfl rfl rfl (pv_move (v := .int _ _) rfl rfl) ?_
                refine xl_pure rfl rfl rfl (pv_indexAddr_l rfl (sl_eq hae) rfl (by omega)) ?_
                refine xl_light rfl rfl rfl (lv_load (v := .agg _) rfl rfl (by exact ld_row' (i := i) (RowsAt.ext hsa hX) hM.1 (by omega))) ?_
                refine xl_heavy rfl rfl rfl (hv_call (g := 14) rfl rfl (c14r x xa xc hx.rows hxl hxz (gr mo i) (hM.1.get (by omega))) rfl) ?_
                rintro v10_5 H10_5 ⟨e10_5, x10_5, a10_5, c10_5, rfl, hd10_5, hr10_5, hl10_5, hz10_5, hn10_5, hE10_5⟩
                have m0_0 := m0_0.ext hE10_5
                have hg := hg.ext hE10_5
                have hX := hX.trans hE10_5
                have hx2 : RowsF (Ft p va mv) H10_5 a10_5 4 x10_5 := by
                  rcases hn10_5 with ⟨rfl, rfl⟩ | hn
                  · exact hx.ext hE10_5
                  · exact RowsF.new hr10_5 hn (fun j hj => (hgo.ft j hj).2)
                refine xl_pure rfl rfl rfl (pv_move (v := .tuple _) rfl rfl) ?_
                refine xl_pure rfl rfl rfl (pv_extract (v := .slice _ _ _) rfl rfl rfl) ?_
                refine xl_pure rfl rfl rfl (pv_extract (v := .int _ _) rfl rfl rfl) ?_
                refine xl_pure rfl rfl rfl (pv_assign (v := .slice _ _ _) rfl rfl) ?_
                refine xl_pure rfl rfl rfl (pv_assign (v := .int _ _) rfl rfl) ?_
                refine xl_nil ?_
                refine xthen_normal ?_
                refine xc_seq ?_
                refine xc_region ?_
                refine xl_pure rfl rfl rfl (pv_move (v := .slice _ _ _) rfl rfl) ?_
                refine xl_pure rfl rfl rfl (pv_assign (v := .slice _ _ _) rfl rfl) ?_
                refine xl_nil ?_
                refine xthen_normal ?_
                refine xc_seq ?_
                refine xc_region ?_
                refine xl_pure rfl rfl rfl (pv_move (v := .pointer _) rfl rfl) ?_
                refine xl_pure rfl rfl rfl (pv_move (v := .slice _ _ _) rfl rfl) ?_
                refine xl_pure rfl rfl rfl (pv_move (v := .int _ _) rfl rfl) ?_
                refine xl_pure rfl rfl rfl (pv_indexAddr_l rfl (sl_eq hae) rfl (by omega)) ?_
                refine xl_light rfl rfl rfl (lv_load (v := .agg _) rfl rfl (by exact ld_row' (i := i) (RowsAt.ext hsa hX) hM.1 (by omega))) ?_
                refine xl_heavy rfl rfl rfl (hv_call (g := 8) rfl rfl (c8r hg (gr mo i) (hM.1.get (by omega))) rfl) ?_
                rintro v12_5 H12_5 ⟨e12_5, l12_5, va12_5, vc12_5, mv12_5, rfl, hd12_5, hg12_5, hK12_5, hW12_5⟩
                have q12_5 := hd10_5.symm.trans hd12_5
                simp only [Prod.mk.injEq] at q12_5
                obtain ⟨rfl, rfl⟩ := q12_5
                have hx2 := hx2.step (by decide) hK12_5 hW12_5
                have m0_0 := m0_0.keep hK12_5 (fun hf => by have := (hg.ft _ hf).1; omega)
                have hX := hX.keepB hK12_5 (fun j hj => (hg.ft j hj).1) hsz0
                refine xl_pure rfl rfl rfl (pv_move (v := .int _ _) rfl rfl) ?_
                refine xl_ndec rfl rfl rfl (pv_neq rfl rfl rfl) (fun h12_7 => ?_) (fun h12_7 => ?_)
                · skip
                  refine xl_nil ?_
                  refine xthen_normal ?_
                  refine xc_cond_f rfl ?_
                  refine xc_skip ?_
                  refine xblock_normal ?_
                  refine xthen_normal ?_
                  refine xc_region ?_
                  refine xl_pure rfl rfl rfl (pv_move (v := .int _ _) rfl rfl) ?_
                  refine xl_pure rfl rfl rfl (pv_add rfl rfl rfl (fit_i64 (by omega))) ?_
                  refine xl_pure rfl rfl rfl (pv_assign (v := .int _ _) rfl rfl) ?_
                  refine xl_nil ?_
                  refine xthen_normal ?_
                  exact ⟨(x10_5, _, _, _, _, _, i + 1), ⟨rfl, rfl, rfl, rfl, rfl, rfl, trivial⟩, ⟨by (try simp only); omega, hg12_5, hx2, hl10_5, hz10_5, m0_0, hX⟩, by (try simp only); omega⟩
                · exact absurd rfl h12_7
              · exact absurd (by decide) h8_6
            · skip
              refine xl_pure rfl rfl rfl (pv_move (v := .bool _) rfl rfl) ?_
              refine xl_skip rfl rfl rfl ?_
              refine xl_skip rfl rfl rfl ?_
              refine xl_pure rfl rfl rfl (pv_pick_f (v := .bool _) rfl rfl rfl) ?_
              refine xl_nil ?_
              refine xthen_normal ?_
              refine xc_cond_f rfl ?_
              refine xc_exit ?_
              refine xthen_exit ?_
              refine xthen_exit ?_
              refine xblock_same ?_
              refine xthen_normal ?_
              refine xc_seq ?_
              refine xc_seq ?_
              refine xc_region ?_
              refine xl_pure rfl rfl rfl (pv_move (v := .int _ _) rfl rfl) ?_
              refine xl_ndec rfl rfl rfl (pv_neq rfl rfl rfl) (fun h14_1 => ?_) (fun h14_1 => ?_)
              · skip
                refine xl_nil ?_
                refine xthen_normal ?_
                refine xc_cond_f rfl ?_
                refine xc_skip ?_
                refine xthen_normal ?_
                refine xc_seq ?_
                refine xc_region ?_
                refine xl_pure rfl rfl rfl (pv_move (v := .pointer _) rfl rfl) ?_
                refine xl_pure rfl rfl rfl (pv_indexAddr_a rfl rfl rfl (by omega)) ?_
                refine xl_light rfl rfl rfl (lv_load (v := .int _ _) rfl rfl (ld_blk m0_0 rfl)) ?_
                refine xl_pure rfl rfl rfl (pv_indexAddr_a rfl rfl rfl (by omega)) ?_
                refine xl_light rfl rfl rfl (lv_load (v := .int _ _) rfl rfl (ld_blk m0_0 rfl)) ?_
                refine xl_heavy rfl rfl rfl (hv_call (g := 7) rfl rfl (c7 hg n0 n1) rfl) ?_
                rintro v16_5 H16_5 ⟨rfl, hE16_5⟩
                have hX16_5 := Ext.refl H16_5
                have hX := hX.trans hE16_5
                have m0_0 := m0_0.ext hE16_5
                have hg := hg.ext hE16_5
                have hx := hx.ext hE16_5
                refine xl_pure rfl rfl rfl (pv_move (v := .tuple _) rfl rfl) ?_
                refine xl_pure rfl rfl rfl (pv_extract (v := .agg _) rfl rfl rfl) ?_
                refine xl_pure rfl rfl rfl (pv_extract (v := .bool _) rfl rfl rfl) ?_
                refine xl_heavy rfl rfl rfl (hv_alloc rfl rfl) ?_
                rintro v16_9 H16_9 ⟨b16_9, rfl, hN16_9⟩
                have gb16_9 := hX.fresh hN16_9
                have gb16_9_hX16_5 := hX16_5.fresh hN16_9
                have nm0_0_16_9 := m0_0.apart hN16_9
                have m0_0 := m0_0.ext hN16_9.ext
                have hX := hX.trans hN16_9.ext
                have hX16_5 := hX16_5.trans hN16_9.ext
                have m16_9 := hN16_9.blk
                refine xl_store rfl rfl (hv_storeA (vs := ints (ofR x n0 n1)) rfl rfl rfl (m16_9) ((List.length_map _).trans (ofR_len hg.wide)) (by rfl) (ints_one _)) ?_
                rintro v16_10 H16_10 ⟨hU16_10, hZ16_10⟩
                have hX16_5 := hX16_5.upd hU16_10.but gb16_9_hX16_5
                have m0_0 := m0_0.off hU16_10.but (nm0_0_16_9)
                have hX := hX.upd hU16_10.but gb16_9
                have m16_9 := hU16_10.blk
                refine xl_pure rfl rfl rfl (pv_assign (v := .bool _) rfl rfl) ?_
                refine xl_nil ?_
                refine xthen_normal ?_
                refine xc_seq ?_
                refine xc_region ?_
                refine xl_pure rfl rfl rfl (pv_move (v := .slice _ _ _) rfl rfl) ?_
                refine xl_pure rfl rfl rfl (pv_indexAddr_a rfl rfl rfl (by omega)) ?_
                refine xl_light rfl rfl rfl (lv_load (v := .int _ _) rfl rfl (ld_blk m0_0 rfl)) ?_
                refine xl_pure rfl rfl rfl (pv_indexAddr_a rfl rfl rfl (by omega)) ?_
                refine xl_light rfl rfl rfl (lv_load (v := .int _ _) rfl rfl (ld_blk m0_0 rfl)) ?_
                refine xl_heavy rfl rfl rfl (hv_call (g := 15) rfl rfl (c15 x xa xc (hx.rows.ext hX16_5) (by omega) n0 n1) rfl) ?_
                rintro v17_5 H17_5 ⟨rfl, hE17_5⟩
                have m0_0 := m0_0.ext hE17_5
                have m16_9 := m16_9.ext hE17_5
                have hX := hX.trans hE17_5
                have hX16_5 := hX16_5.trans hE17_5
                refine xl_pure rfl rfl rfl (pv_move (v := .tuple _) rfl rfl) ?_
                refine xl_pure rfl rfl rfl (pv_extract (v := .agg _) rfl rfl rfl) ?_
                refine xl_pure rfl rfl rfl (pv_extract (v := .bool _) rfl rfl rfl) ?_
                refine xl_heavy rfl rfl rfl (hv_alloc rfl rfl) ?_
                rintro v17_9 H17_9 ⟨b17_9, rfl, hN17_9⟩
                have gb17_9 := hX.fresh hN17_9
                have gb17_9_hX16_5 := hX16_5.fresh hN17_9
                have nm0_0_17_9 := m0_0.apart hN17_9
                have nm16_9_17_9 := m16_9.apart hN17_9
                have m0_0 := m0_0.ext hN17_9.ext
                have m16_9 := m16_9.ext hN17_9.ext
                have hX := hX.trans hN17_9.ext
                have hX16_5 := hX16_5.trans hN17_9.ext
                have m17_9 := hN17_9.blk
                refine xl_store rfl rfl (hv_storeA (vs := ints (ofR x n0 n1)) rfl rfl rfl (m17_9) ((List.length_map _).trans (ofR_len hg.wide)) (by rfl) (ints_one _)) ?_
                rintro v17_10 H17_10 ⟨hU17_10, hZ17_10⟩
                have hX16_5 := hX16_5.upd hU17_10.but gb17_9_hX16_5
                have m0_0 := m0_0.off hU17_10.but (nm0_0_17_9)
                have m16_9 := m16_9.off hU17_10.but (nm16_9_17_9)
                have hX := hX.upd hU17_10.but gb17_9
                have m17_9 := hU17_10.blk
                refine xl_pure rfl rfl rfl (pv_assign (v := .bool _) rfl rfl) ?_
                refine xl_nil ?_
                refine xthen_normal ?_
                refine xc_seq ?_
                refine xp_start rfl (by repeat (first | with_reducible exact np_fin | with_reducible refine np_then ?_ | with_reducible refine np_block ?_)) (by kernel_rfl) ?_
                refine xp_pure (i := 0) rfl (by kernel_rfl) (by kernel_rfl) rfl rfl rfl (pv_move (v := .pointer _) rfl rfl) ?_
                refine xp_pure (i := 2) rfl (by kernel_rfl) (by kernel_rfl) rfl rfl rfl (pv_move (v := .slice _ _ _) rfl rfl) ?_
                refine xp_heavy (i := 1) (by kernel_rfl) ?_
                refine xph_val rfl rfl rfl rfl (hv_call (g := 9) rfl rfl (c9 (hg.ext hX16_5)) rfl) pn ?_
                rintro v18_1 H18_1 ⟨a18_1, c18_1, rfl, hR18_1, hA18_1, hO18_1, hE18_1⟩
                have m0_0 := m0_0.ext hE18_1
                have m16_9 := m16_9.ext hE18_1
                have m17_9 := m17_9.ext hE18_1
                have hX := hX.trans hE18_1
                have hX16_5 := hX16_5.trans hE18_1
                have hX18_1 := Ext.refl H18_1
                refine ⟨okn, ?_⟩
                refine xp_heavy (i := 3) (by kernel_rfl) ?_
                refine xph_val rfl rfl rfl rfl (hv_call (g := 11) rfl rfl (c11 x x _ _ _ _ hR18_1 (hx.rows.ext hX16_5) (by omega)) rfl) pn ?_
                rintro v18_3 H18_3 ⟨r18_3, rfl, hb18_3, rfl⟩
                obtain rfl : r18_3 = true := hb18_3.2 rfl
                refine ⟨okn, ?_⟩
                refine xp_pure (i := 4) rfl (by kernel_rfl) (by kernel_rfl) rfl rfl rfl (pv_move (v := .bool _) rfl rfl) ?_
                refine xp_light (i := 5) rfl (by kernel_rfl) (by kernel_rfl) rfl rfl rfl (lv_load (v := .agg _) rfl rfl (ld_blk_a m16_9 rfl ((List.length_map _).trans (ofR_len hg.wide)))) ?_
                refine xp_light (i := 6) rfl (by kernel_rfl) (by kernel_rfl) rfl rfl rfl (lv_load (v := .agg _) rfl rfl (ld_blk_a m17_9 rfl ((List.length_map _).trans (ofR_len hg.wide)))) ?_
                refine xp_dec (i := 7) rfl (by kernel_rfl) (by kernel_rfl) rfl rfl rfl (pv_eql_st (ofR x n0 n1) (ofR x n0 n1) rfl rfl rfl (ofR_len hg.wide) (ofR_len hg.wide)) (fun h18_7 => ?_) (fun h18_7 => ?_)
                · skip
                  refine xp_pure (i := 8) rfl (by kernel_rfl) (by kernel_rfl) rfl rfl rfl (pv_pick_t (v := .bool _) rfl rfl rfl) ?_
                  refine xp_pure (i := 9) rfl (by kernel_rfl) (by kernel_rfl) rfl rfl rfl (pv_move (v := .bool _) rfl rfl) ?_
                  refine xp_pure (i := 10) rfl (by kernel_rfl) (by kernel_rfl) rfl rfl rfl (pv_move (v := .bool _) rfl rfl) ?_
                  refine xp_pure (i := 11) rfl (by kernel_rfl) (by kernel_rfl) rfl rfl rfl (pv_move (v := .bool _) rfl rfl) ?_
                  refine xp_pure (i := 12) rfl (by kernel_rfl) (by kernel_rfl) rfl rfl rfl (pv_eql_same rfl rfl rfl) ?_
                  refine xp_pure (i := 13) rfl (by kernel_rfl) (by kernel_rfl) rfl rfl rfl (pv_pick_t (v := .bool _) rfl rfl rfl) ?_
                  refine xp_pure (i := 14) rfl (by kernel_rfl) (by kernel_rfl) rfl rfl rfl (pv_move (v := .bool _) rfl rfl) ?_
                  refine xp_pure (i := 15) rfl (by kernel_rfl) (by kernel_rfl) rfl rfl rfl (pv_move (v := .pointer _) rfl rfl) ?_
                  refine xp_pure (i := 16) rfl (by kernel_rfl) (by kernel_rfl) rfl rfl rfl (pv_indexAddr_a rfl rfl rfl (by omega)) ?_
                  refine xp_light (i := 17) rfl (by kernel_rfl) (by kernel_rfl) rfl rfl rfl (lv_load (v := .int _ _) rfl rfl (ld_blk m0_0 rfl)) ?_
                  refine xp_pure (i := 18) rfl (by kernel_rfl) (by kernel_rfl) rfl rfl rfl (pv_indexAddr_a rfl rfl rfl (by omega)) ?_
                  refine xp_light (i := 19) rfl (by kernel_rfl) (by kernel_rfl) rfl rfl rfl (lv_load (v := .int _ _) rfl rfl (ld_blk m0_0 rfl)) ?_
                  refine xp_pure (i := 21) rfl (by kernel_rfl) (by kernel_rfl) rfl rfl rfl (pv_move (v := .slice _ _ _) rfl rfl) ?_
                  refine xp_pure (i := 22) rfl (by kernel_rfl) (by kernel_rfl) rfl rfl rfl (pv_indexAddr_a rfl rfl rfl (by omega)) ?_
                  refine xp_light (i := 23) rfl (by kernel_rfl) (by kernel_rfl) rfl rfl rfl (lv_load (v := .int _ _) rfl rfl (ld_blk m0_0 rfl)) ?_
                  refine xp_pure (i := 24) rfl (by kernel_rfl) (by kernel_rfl) rfl rfl rfl (pv_indexAddr_a rfl rfl rfl (by omega)) ?_
                  refine xp_light (i := 25) rfl (by kernel_rfl) (by kernel_rfl) rfl rfl rfl (lv_load (v := .int _ _) rfl rfl (ld_blk m0_0 rfl)) ?_
                  refine xp_heavy (i := 20) (by kernel_rfl) ?_
                  refine xph_val rfl rfl rfl rfl (hv_call (g := 16) rfl rfl (c16 (hg.ext hX16_5) n0 n1) rfl) (pk (by kernel_rfl) (pk (by kernel_rfl) (pd (by kernel_rfl) (pd (by kernel_rfl) (pk (by kernel_rfl) (pk (by kernel_rfl) pn)))))) ?_
                  rintro v18_20 H18_20 ⟨a18_20, c18_20, rfl, hR18_20, hE18_20⟩
                  have m0_0 := m0_0.ext hE18_20
                  have m16_9 := m16_9.ext hE18_20
                  have m17_9 := m17_9.ext hE18_20
                  have hX := hX.trans hE18_20
                  have hX16_5 := hX16_5.trans hE18_20
                  have hX18_1 := hX18_1.trans hE18_20
                  have hX18_20 := Ext.refl H18_20
                  refine ⟨(okc (lv_load (v := .int _ _) rfl rfl (ld_blk m0_0 rfl)) (okc (lv_load (v := .int _ _) rfl rfl (ld_blk m0_0 rfl)) (okc (lv_load (v := .agg _) rfl rfl (ld_blk_a m17_9 rfl ((List.length_map _).trans (ofR_len hg.wide)))) (okc (lv_load (v := .agg _) rfl rfl (ld_blk_a m16_9 rfl ((List.length_map _).trans (ofR_len hg.wide)))) okn)))), ?_⟩
                  refine xp_heavy (i := 26) (by kernel_rfl) ?_
                  refine xph_val rfl rfl rfl rfl (hv_call (g := 17) rfl rfl (c17 x xa xc (hx.rows.ext hX16_5) (by omega) n0 n1) rfl) (pd (by kernel_rfl) (pd (by kernel_rfl) (pk (by kernel_rfl) (pk (by kernel_rfl) pn)))) ?_
                  rintro v18_26 H18_26 ⟨a18_26, c18_26, rfl, hR18_26, hE18_26⟩
                  have m0_0 := m0_0.ext hE18_26
                  have m16_9 := m16_9.ext hE18_26
                  have m17_9 := m17_9.ext hE18_26
                  have hX := hX.trans hE18_26
                  have hX16_5 := hX16_5.trans hE18_26
                  have hX18_1 := hX18_1.trans hE18_26
                  have hX18_20 := hX18_20.trans hE18_26
                  refine ⟨(okc (lv_load (v := .agg _) rfl rfl (ld_blk_a m17_9 rfl ((List.length_map _).trans (ofR_len hg.wide)))) (okc (lv_load (v := .agg _) rfl rfl (ld_blk_a m16_9 rfl ((List.length_map _).trans (ofR_len hg.wide)))) okn)), ?_⟩
                  refine xp_heavy (i := 27) (by kernel_rfl) ?_
                  refine xph_val rfl rfl rfl rfl (hv_call (g := 11) rfl rfl (c11 _ _ _ _ _ _ (hR18_20.ext hX18_20) hR18_26 (by have := List.length_filter_le (btw n0 n1) x; omega)) rfl) (pk (by kernel_rfl) (pk (by kernel_rfl) pn)) ?_
                  rintro v18_27 H18_27 ⟨r18_27, rfl, hb18_27, rfl⟩
                  obtain rfl : r18_27 = true := hb18_27.2 rfl
                  refine ⟨(okc (lv_load (v := .agg _) rfl rfl (ld_blk_a m17_9 rfl ((List.length_map _).trans (ofR_len hg.wide)))) (okc (lv_load (v := .agg _) rfl rfl (ld_blk_a m16_9 rfl ((List.length_map _).trans (ofR_len hg.wide)))) okn)), ?_⟩
                  refine xp_pure (i := 28) rfl (by kernel_rfl) (by kernel_rfl) rfl rfl rfl (pv_pick_t (v := .bool _) rfl rfl rfl) ?_
                  refine xp_pure (i := 29) rfl (by kernel_rfl) (by kernel_rfl) rfl rfl rfl (pv_move (v := .bool _) rfl rfl) ?_
                  refine xp_pure (i := 30) rfl (by kernel_rfl) (by kernel_rfl) rfl rfl rfl (pv_move (v := .pointer _) rfl rfl) ?_
                  refine xp_pure (i := 31) rfl (by kernel_rfl) (by kernel_rfl) rfl rfl rfl (pv_indexAddr_a rfl rfl rfl (by omega)) ?_
                  refine xp_light (i := 32) rfl (by kernel_rfl) (by kernel_rfl) rfl rfl rfl (lv_load (v := .int _ _) rfl rfl (ld_blk m0_0 rfl)) ?_
                  refine xp_pure (i := 33) rfl (by kernel_rfl) (by kernel_rfl) rfl rfl rfl (pv_indexAddr_a rfl rfl rfl (by omega)) ?_
                  refine xp_light (i := 34) rfl (by kernel_rfl) (by kernel_rfl) rfl rfl rfl (lv_load (v := .int _ _) rfl rfl (ld_blk m0_0 rfl)) ?_
                  refine xp_pure (i := 36) rfl (by kernel_rfl) (by kernel_rfl) rfl rfl rfl (pv_move (v := .slice _ _ _) rfl rfl) ?_
                  refine xp_pure (i := 37) rfl (by kernel_rfl) (by kernel_rfl) rfl rfl rfl (pv_indexAddr_a rfl rfl rfl (by omega)) ?_
                  refine xp_light (i := 38) rfl (by kernel_rfl) (by kernel_rfl) rfl rfl rfl (lv_load (v := .int _ _) rfl rfl (ld_blk m0_0 rfl)) ?_
                  refine xp_pure (i := 39) rfl (by kernel_rfl) (by kernel_rfl) rfl rfl rfl (pv_indexAddr_a rfl rfl rfl (by omega)) ?_
                  refine xp_light (i := 40) rfl (by kernel_rfl) (by kernel_rfl) rfl rfl rfl (lv_load (v := .int _ _) rfl rfl (ld_blk m0_0 rfl)) ?_
                  refine xp_heavy (i := 35) (by kernel_rfl) ?_
                  refine xph_val rfl rfl rfl rfl (hv_call (g := 18) rfl rfl (c18 (hg.ext hX16_5) n0 n1) rfl) (pk (by kernel_rfl) (pk (by kernel_rfl) (pd (by kernel_rfl) (pd (by kernel_rfl) (pk (by kernel_rfl) (pk (by kernel_rfl) pn)))))) ?_
                  rintro v18_35 H18_35 ⟨rfl, hE18_35⟩
                  have m0_0 := m0_0.ext hE18_35
                  have m16_9 := m16_9.ext hE18_35
                  have m17_9 := m17_9.ext hE18_35
                  have hX := hX.trans hE18_35
                  have hX16_5 := hX16_5.trans hE18_35
                  have hX18_1 := hX18_1.trans hE18_35
                  have hX18_20 := hX18_20.trans hE18_35
                  refine ⟨(okc (lv_load (v := .int _ _) rfl rfl (ld_blk m0_0 rfl)) (okc (lv_load (v := .int _ _) rfl rfl (ld_blk m0_0 rfl)) (okc (lv_load (v := .agg _) rfl rfl (ld_blk_a m17_9 rfl ((List.length_map _).trans (ofR_len hg.wide)))) (okc (lv_load (v := .agg _) rfl rfl (ld_blk_a m16_9 rfl ((List.length_map _).trans (ofR_len hg.wide)))) okn)))), ?_⟩
                  refine xp_heavy (i := 41) (by kernel_rfl) ?_
                  refine xph_val rfl rfl rfl rfl (hv_call (g := 19) rfl rfl (c19 x xa xc (hx.rows.ext hX16_5) (by omega) n0 n1) rfl) (pd (by kernel_rfl) (pd (by kernel_rfl) (pk (by kernel_rfl) (pk (by kernel_rfl) pn)))) ?_
                  rintro v18_41 H18_41 ⟨rfl, hE18_41⟩
                  have m0_0 := m0_0.ext hE18_41
                  have m16_9 := m16_9.ext hE18_41
                  have m17_9 := m17_9.ext hE18_41
                  have hX := hX.trans hE18_41
                  have hX16_5 := hX16_5.trans hE18_41
                  have hX18_1 := hX18_1.trans hE18_41
                  have hX18_20 := hX18_20.trans hE18_41
                  refine ⟨(okc (lv_load (v := .agg _) rfl rfl (ld_blk_a m17_9 rfl ((List.length_map _).trans (ofR_len hg.wide)))) (okc (lv_load (v := .agg _) rfl rfl (ld_blk_a m16_9 rfl ((List.length_map _).trans (ofR_len hg.wide)))) okn)), ?_⟩
                  refine xp_dec (i := 42) rfl (by kernel_rfl) (by kernel_rfl) rfl rfl rfl (pv_eql rfl rfl rfl) (fun h18_42 => ?_) (fun h18_42 => ?_)
                  · skip
                    refine xp_pure (i := 43) rfl (by kernel_rfl) (by kernel_rfl) rfl rfl rfl (pv_pick_t (v := .bool _) rfl rfl rfl) ?_
                    refine xp_pure (i := 44) rfl (by kernel_rfl) (by kernel_rfl) rfl rfl rfl (pv_move (v := .bool _) rfl rfl) ?_
                    refine xp_heavy (i := 45) (by kernel_rfl) ?_
                    refine xph_val rfl rfl rfl rfl (hv_call (g := 6) rfl rfl (c6) rfl) (pk (by kernel_rfl) (pk (by kernel_rfl) pn)) ?_
                    rintro v18_45 H18_45 ⟨rfl, hE18_45⟩
                    have m0_0 := m0_0.ext hE18_45
                    have m16_9 := m16_9.ext hE18_45
                    have m17_9 := m17_9.ext hE18_45
                    have hX := hX.trans hE18_45
                    have hX16_5 := hX16_5.trans hE18_45
                    have hX18_1 := hX18_1.trans hE18_45
                    have hX18_20 := hX18_20.trans hE18_45
                    refine ⟨(okc (lv_load (v := .agg _) rfl rfl (ld_blk_a m17_9 rfl ((List.length_map _).trans (ofR_len hg.wide)))) (okc (lv_load (v := .agg _) rfl rfl (ld_blk_a m16_9 rfl ((List.length_map _).trans (ofR_len hg.wide)))) okn)), ?_⟩
                    refine xp_pure (i := 46) rfl (by kernel_rfl) (by kernel_rfl) rfl rfl rfl (pv_pick_t (v := .bool _) rfl rfl rfl) ?_
                    refine xp_pure (i := 47) rfl (by kernel_rfl) (by kernel_rfl) rfl rfl rfl (pv_assign (v := .bool _) rfl rfl) ?_
                    refine xp_done (by kernel_rfl) ?_
                    refine xthen_normal ?_
                    refine xc_ret ?_
                    refine fin_ret (res1 (v := .bool _) rfl rfl) ?_
                    exact ⟨rfl, hX⟩
                  · exact absurd rfl h18_42
                · exact absurd rfl h18_7
              · exact absurd (by decide) h14_1
        · exact absurd (by decide) h5_7
      · exact absurd (by decide) h5_2

theorem c4 {O : Outer} {H : Heap} (l : List (List Int)) (la : Option Addr) (lc : Nat) (hR : Rows H la 4 l) (mo : List (List Int)) (ma : Option Addr) (mc : Nat) (hM : Rows H ma 4 mo) (n0 n1 : Int) : FnC Try.prog 4 #[.slice la (List.length l) lc, .slice ma (List.length mo) mc, .agg #[.int .i64 n0, .int .i64 n1]] O H (fun v H' => v = .bool true ∧ Ext H H') := by
  cases hld : loadL l with
  | none => exact c4n l la lc hR mo ma mc hM n0 n1 hld
  | some x0 => exact c4s l la lc hR mo ma mc hM n0 n1 x0 hld
end Go.XG
