/-
  Walks of the seat's functions over the logic XG: each function, what it computes. Printed by a program out of wip/walks.py.
-/
import Derived.Test.YtecjgodbgfollaaI
import Derived.Test.YtecjgodbgfollaaLn
import Derived.Test.YtecjgodbgfollaaNa
import Derived.Test.YtecjgodbgfollaaNb
import Derived.Test.YtecjgodbgfollaaNc
import Derived.Test.YtecjgodbgfollaaNd
import Derived.Test.YtecjgodbgfollaaNf
import Derived.Test.YtecjgodbgfollaaNg
import Derived.Test.YtecjgodbgfollaaE
import Derived.Test.YtecjgodbgfollaaWa
import Derived.Test.YtecjgodbgfollaaWb
import Derived.Test.YtecjgodbgfollaaWc
import Derived.Test.YtecjgodbgfollaaWd
import Derived.Test.YtecjgodbgfollaaWe
import Derived.Test.YtecjgodbgfollaaWf
import Derived.Test.YtecjgodbgfollaaWg
import Derived.Test.YtecjgodbgfollaaWh
import Derived.Test.YtecjgodbgfollaaWi
import Derived.Test.YtecjgodbgfollaaWj
import Derived.Test.YtecjgodbgfollaaE2
import Derived.Test.YtecjgodbgfollaaWk
import Derived.Test.YtecjgodbgfollaaWl
import Derived.Test.YtecjgodbgfollaaE3
import Derived.Test.YtecjgodbgfollaaWm
import Derived.Test.YtecjgodbgfollaaWn
import Derived.Test.YtecjgodbgfollaaE4
import Derived.Test.YtecjgodbgfollaaWo
namespace Go.XG
open Go.Proofs Go.Pen
set_option maxRecDepth 4000
set_option maxHeartbeats 4000000
theorem c5 {O : Outer} {H : Heap} (l : List (List Int)) (la : Option Addr) (lc : Nat) (hR : Rows H la 4 l) (s : List UInt8) :
    FnC Try.prog 5 #[.slice la (List.length l) lc, .string (bs s)] O H (fun v H' => v = .bool true ∧ Ext H H') := by
  refine fn_enter (A := [.slice la (List.length l) lc, .string (bs s)]) Try.func5 rfl rfl ?_
  have hX := Ext.refl H
  refine xc_seq ?_
  refine xc_region ?_
  refine xl_pure rfl rfl rfl (pv_assign (v := .bool _) rfl rfl) ?_
  refine xl_nil ?_
  refine xthen_normal ?_
  refine xc_seq ?_
  refine xc_seq ?_
  refine xc_region ?_
  refine xl_pure rfl rfl rfl (pv_move (v := .slice _ _ _) rfl rfl) ?_
  refine xl_pure rfl rfl rfl (pv_len_l rfl rfl) ?_
  refine xl_dec rfl rfl rfl (pv_gtr rfl rfl rfl) (fun h1_2 => ?_) (fun h1_2 => ?_)
  · skip
    refine xl_pure rfl rfl rfl (pv_move (v := .bool _) rfl rfl) ?_
    refine xl_skip rfl rfl rfl ?_
    refine xl_skip rfl rfl rfl ?_
    refine xl_skip rfl rfl rfl ?_
    refine xl_pure rfl rfl rfl (pv_pick_t (v := .bool _) rfl rfl rfl) ?_
    refine xl_nil ?_
    refine xthen_normal ?_
    refine xc_cond_t rfl ?_
    refine xc_seq ?_
    refine xc_region ?_
    refine xl_heavy rfl rfl rfl (hv_call (g := 6) rfl rfl (c6) rfl) ?_
    rintro v2_0 H2_0 ⟨rfl, hE2_0⟩
    have hX := hX.trans hE2_0
    refine xl_pure rfl rfl rfl (pv_assign (v := .bool _) rfl rfl) ?_
    refine xl_nil ?_
    refine xthen_normal ?_
    refine xc_ret ?_
    refine xthen_ret ?_
    refine fin_ret (res1 (v := .bool _) rfl rfl) ?_
    exact ⟨rfl, hX⟩
  · skip
    refine xl_pure rfl rfl rfl (pv_move (v := .bool _) rfl rfl) ?_
    refine xl_pure rfl rfl rfl (pv_move (v := .string (bs _)) rfl rfl) ?_
    refine xl_pure rfl rfl rfl (pv_len_s rfl rfl) ?_
    refine xl_dec rfl rfl rfl (pv_gtr rfl rfl rfl) (fun h1_6 => ?_) (fun h1_6 => ?_)
    · skip
      refine xl_pure rfl rfl rfl (pv_pick_f (v := .bool _) rfl rfl rfl) ?_
      refine xl_nil ?_
      refine xthen_normal ?_
      refine xc_cond_t rfl ?_
      refine xc_seq ?_
      refine xc_region ?_
      refine xl_heavy rfl rfl rfl (hv_call (g := 6) rfl rfl (c6) rfl) ?_
      rintro v2_0 H2_0 ⟨rfl, hE2_0⟩
      have hX := hX.trans hE2_0
      refine xl_pure rfl rfl rfl (pv_assign (v := .bool _) rfl rfl) ?_
      refine xl_nil ?_
      refine xthen_normal ?_
      refine xc_ret ?_
      refine xthen_ret ?_
      refine fin_ret (res1 (v := .bool _) rfl rfl) ?_
      exact ⟨rfl, hX⟩
    · skip
      refine xl_pure rfl rfl rfl (pv_pick_f (v := .bool _) rfl rfl rfl) ?_
      refine xl_nil ?_
      refine xthen_normal ?_
      refine xc_cond_f rfl ?_
      refine xc_skip ?_
      refine xthen_normal ?_
      refine xc_seq ?_
      refine xc_region ?_
      refine xl_pure rfl rfl rfl (pv_move (v := .slice _ _ _) rfl rfl) ?_
      refine xl_heavy rfl rfl rfl (hv_call (g := 20) rfl rfl (c20 l la lc (hR.ext hX) (by omega)) rfl) ?_
      rintro v3_1 H3_1 ⟨hc3_1, hE3_1⟩
      have hX := hX.trans hE3_1
      rcases hc3_1 with ⟨hld, rfl⟩ | ⟨hld, rfl⟩
      · skip
        refine xl_pure rfl rfl rfl (pv_move (v := .tuple _) rfl rfl) ?_
        refine xl_pure rfl rfl rfl (pv_extract (v := .string (bs _)) rfl rfl rfl) ?_
        refine xl_pure rfl rfl rfl (pv_extract (v := .int _ _) rfl rfl rfl) ?_
        refine xl_pure rfl rfl rfl (pv_assign (v := .string (bs _)) rfl rfl) ?_
        refine xl_pure rfl rfl rfl (pv_assign (v := .int _ _) rfl rfl) ?_
        refine xl_nil ?_
        refine xthen_normal ?_
        refine xc_seq ?_
        refine xc_region ?_
        refine xl_pure rfl rfl rfl (pv_move (v := .slice _ _ _) rfl rfl) ?_
        refine xl_heavy rfl rfl rfl (hv_call (g := 21) rfl rfl (c21 l la lc (hR.ext hX) (by omega)) rfl) ?_
        rintro v4_1 H4_1 ⟨hc4_1, hE4_1⟩
        have hX := hX.trans hE4_1
        obtain rfl : v4_1 = .tuple #[.string (bs []), .int .i64 1] := by
          rcases hc4_1 with ⟨h1, h⟩ | ⟨h1, h⟩
          · exact h
          · rw [hld] at h1; cases h1
        refine xl_pure rfl rfl rfl (pv_move (v := .tuple _) rfl rfl) ?_
        refine xl_pure rfl rfl rfl (pv_extract (v := .string (bs _)) rfl rfl rfl) ?_
        refine xl_pure rfl rfl rfl (pv_extract (v := .int _ _) rfl rfl rfl) ?_
        refine xl_pure rfl rfl rfl (pv_assign (v := .string (bs _)) rfl rfl) ?_
        refine xl_pure rfl rfl rfl (pv_assign (v := .int _ _) rfl rfl) ?_
        refine xl_nil ?_
        refine xthen_normal ?_
        refine xc_seq ?_
        refine xc_region ?_
        refine xl_pure rfl rfl rfl (pv_move (v := .string (bs _)) rfl rfl) ?_
        refine xl_heavy rfl rfl rfl (hv_call (g := 22) rfl rfl (c22 s) rfl) ?_
        rintro v5_1 H5_1 ⟨e5_1, x5_1, a5_1, c5_1, rfl, hd5_1, hr5_1, hxl5_1, hE5_1⟩
        have hX := hX.trans hE5_1
        have hX5_1 := Ext.refl H5_1
        rcases take_split hd5_1 with ⟨rfl, hpt⟩ | ⟨rfl, rfl⟩
        · skip
          refine xl_pure rfl rfl rfl (pv_move (v := .tuple _) rfl rfl) ?_
          refine xl_pure rfl rfl rfl (pv_extract (v := .slice _ _ _) rfl rfl rfl) ?_
          refine xl_pure rfl rfl rfl (pv_extract (v := .int _ _) rfl rfl rfl) ?_
          refine xl_pure rfl rfl rfl (pv_assign (v := .slice _ _ _) rfl rfl) ?_
          refine xl_pure rfl rfl rfl (pv_assign (v := .int _ _) rfl rfl) ?_
          refine xl_nil ?_
          refine xthen_normal ?_
          refine xc_seq ?_
          refine xc_region ?_
          refine xl_pure rfl rfl rfl (pv_move (v := .string (bs _)) rfl rfl) ?_
          refine xl_heavy rfl rfl rfl (hv_call (g := 23) rfl rfl (c23 s (by omega)) rfl) ?_
          rintro v6_1 H6_1 ⟨e6_1, x6_1, a6_1, c6_1, rfl, hd6_1, hr6_1, hxl6_1, hE6_1⟩
          have hX := hX.trans hE6_1
          have hX5_1 := hX5_1.trans hE6_1
          have hX6_1 := Ext.refl H6_1
          have q6_1 := hd5_1.symm.trans hd6_1
          simp only [Prod.mk.injEq] at q6_1
          obtain ⟨rfl, rfl⟩ := q6_1
          refine xl_pure rfl rfl rfl (pv_move (v := .tuple _) rfl rfl) ?_
          refine xl_pure rfl rfl rfl (pv_extract (v := .slice _ _ _) rfl rfl rfl) ?_
          refine xl_pure rfl rfl rfl (pv_extract (v := .int _ _) rfl rfl rfl) ?_
          refine xl_pure rfl rfl rfl (pv_assign (v := .slice _ _ _) rfl rfl) ?_
          refine xl_pure rfl rfl rfl (pv_assign (v := .int _ _) rfl rfl) ?_
          refine xl_nil ?_
          refine xthen_normal ?_
          refine xc_seq ?_
          refine xc_seq ?_
          refine xc_region ?_
          refine xl_pure rfl rfl rfl (pv_move (v := .string (bs _)) rfl rfl) ?_
          refine xl_pure rfl rfl rfl (pv_move (v := .string (bs _)) rfl rfl) ?_
          refine xl_ndec rfl rfl rfl (pv_neq_s rfl rfl rfl) (fun h7_2 => ?_) (fun h7_2 => ?_)
          · skip
            refine xl_pure rfl rfl rfl (pv_move (v := .bool _) rfl rfl) ?_
            refine xl_pure rfl rfl rfl (pv_move (v := .int _ _) rfl rfl) ?_
            refine xl_pure rfl rfl rfl (pv_move (v := .int _ _) rfl rfl) ?_
            refine xl_ndec rfl rfl rfl (pv_neq rfl rfl rfl) (fun h7_6 => ?_) (fun h7_6 => ?_)
            · skip
              refine xl_pure rfl rfl rfl (pv_pick_f (v := .bool _) rfl rfl rfl) ?_
              refine xl_pure rfl rfl rfl (pv_move (v := .bool _) rfl rfl) ?_
              refine xl_pure rfl rfl rfl (pv_move (v := .slice _ _ _) rfl rfl) ?_
              refine xl_pure rfl rfl rfl (pv_move (v := .slice _ _ _) rfl rfl) ?_
              refine xl_heavy rfl rfl rfl (hv_call (g := 11) rfl rfl (c11 _ _ _ _ _ _ (hr5_1.ext hX5_1) (hr6_1.ext hX6_1) (by first | omega | decide)) rfl) ?_
              rintro v7_11 H7_11 ⟨r7_11, rfl, hb7_11, rfl⟩
              obtain rfl : r7_11 = true := hb7_11.2 rfl
              refine xl_pure rfl rfl rfl (pv_not rfl rfl) ?_
              refine xl_pure rfl rfl rfl (pv_pick_f (v := .bool _) rfl rfl rfl) ?_
              refine xl_pure rfl rfl rfl (pv_move (v := .bool _) rfl rfl) ?_
              refine xl_pure rfl rfl rfl (pv_move (v := .int _ _) rfl rfl) ?_
              refine xl_pure rfl rfl rfl (pv_move (v := .int _ _) rfl rfl) ?_
              refine xl_ndec rfl rfl rfl (pv_neq rfl rfl rfl) (fun h7_17 => ?_) (fun h7_17 => ?_)
              · skip
                refine xl_pure rfl rfl rfl (pv_pick_f (v := .bool _) rfl rfl rfl) ?_
                refine xl_nil ?_
                refine xthen_normal ?_
                refine xc_cond_f rfl ?_
                refine xc_skip ?_
                refine xthen_normal ?_
                refine xc_seq ?_
                refine xc_region ?_
                refine xl_pure rfl rfl rfl (pv_move (v := .string (bs _)) rfl rfl) ?_
                refine xl_heavy rfl rfl rfl (hv_call (g := 22) rfl rfl (c22 []) rfl) ?_
                rintro v9_1 H9_1 ⟨e9_1, x9_1, a9_1, c9_1, rfl, hd9_1, hr9_1, hxl9_1, hE9_1⟩
                have hX := hX.trans hE9_1
                have hX5_1 := hX5_1.trans hE9_1
                have hX6_1 := hX6_1.trans hE9_1
                refine xl_pure rfl rfl rfl (pv_move (v := .tuple _) rfl rfl) ?_
                refine xl_pure rfl rfl rfl (pv_extract (v := .slice _ _ _) rfl rfl rfl) ?_
                refine xl_pure rfl rfl rfl (pv_extract (v := .int _ _) rfl rfl rfl) ?_
                refine xl_pure rfl rfl rfl (pv_assign (v := .slice _ _ _) rfl rfl) ?_
                refine xl_pure rfl rfl rfl (pv_assign (v := .int _ _) rfl rfl) ?_
                refine xl_nil ?_
                refine xthen_normal ?_
                refine xc_seq ?_
                refine xc_region ?_
                refine xl_pure rfl rfl rfl (pv_move (v := .slice _ _ _) rfl rfl) ?_
                refine xl_heavy rfl rfl rfl (hv_call (g := 20) rfl rfl (c20 x5_1 _ _ (hr5_1.ext hX5_1) (by first | omega | decide)) rfl) ?_
                rintro v10_1 H10_1 ⟨hc10_1, hE10_1⟩
                have hX := hX.trans hE10_1
                have hX5_1 := hX5_1.trans hE10_1
                have hX6_1 := hX6_1.trans hE10_1
                obtain rfl : v10_1 = .tuple #[.string (bs (putB x5_1)), .int .i64 0] := by
                  rcases hc10_1 with ⟨h1, _⟩ | ⟨_, h⟩
                  · rw [hpt.1] at h1; cases h1
                  · exact h
                refine xl_pure rfl rfl rfl (pv_move (v := .tuple _) rfl rfl) ?_
                refine xl_pure rfl rfl rfl (pv_extract (v := .string (bs _)) rfl rfl rfl) ?_
                refine xl_pure rfl rfl rfl (pv_extract (v := .int _ _) rfl rfl rfl) ?_
                refine xl_pure rfl rfl rfl (pv_assign (v := .string (bs _)) rfl rfl) ?_
                refine xl_pure rfl rfl rfl (pv_assign (v := .int _ _) rfl rfl) ?_
                refine xl_nil ?_
                refine xthen_normal ?_
                refine xc_seq ?_
                refine xc_region ?_
                refine xl_pure rfl rfl rfl (pv_move (v := .int _ _) rfl rfl) ?_
                refine xl_ndec rfl rfl rfl (pv_neq rfl rfl rfl) (fun h11_1 => ?_) (fun h11_1 => ?_)
                · exact absurd h11_1 (by decide)
                · skip
                  refine xl_pure rfl rfl rfl (pv_move (v := .bool _) rfl rfl) ?_
                  refine xl_skip rfl rfl rfl ?_
                  refine xl_skip rfl rfl rfl ?_
                  refine xl_skip rfl rfl rfl ?_
                  refine xl_skip rfl rfl rfl ?_
                  refine xl_skip rfl rfl rfl ?_
                  refine xl_skip rfl rfl rfl ?_
                  refine xl_skip rfl rfl rfl ?_
                  refine xl_pure rfl rfl rfl (pv_pick_t (v := .bool _) rfl rfl rfl) ?_
                  refine xl_pure rfl rfl rfl (pv_move (v := .bool _) rfl rfl) ?_
                  refine xl_pure rfl rfl rfl (pv_move (v := .int _ _) rfl rfl) ?_
                  refine xl_ndec rfl rfl rfl (pv_neq rfl rfl rfl) (fun h11_13 => ?_) (fun h11_13 => ?_)
                  · skip
                    refine xl_pure rfl rfl rfl (pv_move (v := .bool _) rfl rfl) ?_
                    refine xl_pure rfl rfl rfl (pv_move (v := .int _ _) rfl rfl) ?_
                    refine xl_dec rfl rfl rfl (pv_eql rfl rfl rfl) (fun h11_16 => ?_) (fun h11_16 => ?_)
                    · skip
                      refine xl_pure rfl rfl rfl (pv_move (v := .bool _) rfl rfl) ?_
                      refine xl_pure rfl rfl rfl (pv_move (v := .string (bs _)) rfl rfl) ?_
                      refine xl_pure rfl rfl rfl (pv_move (v := .string (bs _)) rfl rfl) ?_
                      refine xl_dec rfl rfl rfl (pv_eql_s rfl rfl rfl) (fun h11_20 => ?_) (fun h11_20 => ?_)
                      · skip
                        refine xl_pure rfl rfl rfl (pv_pick_t (v := .bool _) rfl rfl rfl) ?_
                        refine xl_pure rfl rfl rfl (pv_pick_f (v := .bool _) rfl rfl rfl) ?_
                        refine xl_pure rfl rfl rfl (pv_pick_t (v := .bool _) rfl rfl rfl) ?_
                        refine xl_pure rfl rfl rfl (pv_move (v := .bool _) rfl rfl) ?_
                        refine xl_heavy rfl rfl rfl (hv_call (g := 6) rfl rfl (c6) rfl) ?_
                        rintro v11_25 H11_25 ⟨rfl, hE11_25⟩
                        have hX := hX.trans hE11_25
                        have hX5_1 := hX5_1.trans hE11_25
                        have hX6_1 := hX6_1.trans hE11_25
                        refine xl_pure rfl rfl rfl (pv_pick_t (v := .bool _) rfl rfl rfl) ?_
                        refine xl_pure rfl rfl rfl (pv_assign (v := .bool _) rfl rfl) ?_
                        refine xl_nil ?_
                        refine xthen_normal ?_
                        refine xc_ret ?_
                        refine fin_ret (res1 (v := .bool _) rfl rfl) ?_
                        exact ⟨rfl, hX⟩
                      · exact absurd hpt.2.2 h11_20
                    · exact absurd (by decide) h11_16
                  · exact absurd (by decide) h11_13
              · exact absurd (by decide) h7_17
            · exact absurd (by decide) h7_6
          · exact absurd rfl h7_2
        · skip
          refine xl_pure rfl rfl rfl (pv_move (v := .tuple _) rfl rfl) ?_
          refine xl_pure rfl rfl rfl (pv_extract (v := .slice _ _ _) rfl rfl rfl) ?_
          refine xl_pure rfl rfl rfl (pv_extract (v := .int _ _) rfl rfl rfl) ?_
          refine xl_pure rfl rfl rfl (pv_assign (v := .slice _ _ _) rfl rfl) ?_
          refine xl_pure rfl rfl rfl (pv_assign (v := .int _ _) rfl rfl) ?_
          refine xl_nil ?_
          refine xthen_normal ?_
          refine xc_seq ?_
          refine xc_region ?_
          refine xl_pure rfl rfl rfl (pv_move (v := .string (bs _)) rfl rfl) ?_
          refine xl_heavy rfl rfl rfl (hv_call (g := 23) rfl rfl (c23 s (by omega)) rfl) ?_
          rintro v6_1 H6_1 ⟨e6_1, x6_1, a6_1, c6_1, rfl, hd6_1, hr6_1, hxl6_1, hE6_1⟩
          have hX := hX.trans hE6_1
          have hX5_1 := hX5_1.trans hE6_1
          have hX6_1 := Ext.refl H6_1
          have q6_1 := hd5_1.symm.trans hd6_1
          simp only [Prod.mk.injEq] at q6_1
          obtain ⟨rfl, rfl⟩ := q6_1
          refine xl_pure rfl rfl rfl (pv_move (v := .tuple _) rfl rfl) ?_
          refine xl_pure rfl rfl rfl (pv_extract (v := .slice _ _ _) rfl rfl rfl) ?_
          refine xl_pure rfl rfl rfl (pv_extract (v := .int _ _) rfl rfl rfl) ?_
          refine xl_pure rfl rfl rfl (pv_assign (v := .slice _ _ _) rfl rfl) ?_
          refine xl_pure rfl rfl rfl (pv_assign (v := .int _ _) rfl rfl) ?_
          refine xl_nil ?_
          refine xthen_normal ?_
          refine xc_seq ?_
          refine xc_seq ?_
          refine xc_region ?_
          refine xl_pure rfl rfl rfl (pv_move (v := .string (bs _)) rfl rfl) ?_
          refine xl_pure rfl rfl rfl (pv_move (v := .string (bs _)) rfl rfl) ?_
          refine xl_ndec rfl rfl rfl (pv_neq_s rfl rfl rfl) (fun h7_2 => ?_) (fun h7_2 => ?_)
          · skip
            refine xl_pure rfl rfl rfl (pv_move (v := .bool _) rfl rfl) ?_
            refine xl_pure rfl rfl rfl (pv_move (v := .int _ _) rfl rfl) ?_
            refine xl_pure rfl rfl rfl (pv_move (v := .int _ _) rfl rfl) ?_
            refine xl_ndec rfl rfl rfl (pv_neq rfl rfl rfl) (fun h7_6 => ?_) (fun h7_6 => ?_)
            · skip
              refine xl_pure rfl rfl rfl (pv_pick_f (v := .bool _) rfl rfl rfl) ?_
              refine xl_pure rfl rfl rfl (pv_move (v := .bool _) rfl rfl) ?_
              refine xl_pure rfl rfl rfl (pv_move (v := .slice _ _ _) rfl rfl) ?_
              refine xl_pure rfl rfl rfl (pv_move (v := .slice _ _ _) rfl rfl) ?_
              refine xl_heavy rfl rfl rfl (hv_call (g := 11) rfl rfl (c11 _ _ _ _ _ _ (hr5_1.ext hX5_1) (hr6_1.ext hX6_1) (by first | omega | decide)) rfl) ?_
              rintro v7_11 H7_11 ⟨r7_11, rfl, hb7_11, rfl⟩
              obtain rfl : r7_11 = true := hb7_11.2 rfl
              refine xl_pure rfl rfl rfl (pv_not rfl rfl) ?_
              refine xl_pure rfl rfl rfl (pv_pick_f (v := .bool _) rfl rfl rfl) ?_
              refine xl_pure rfl rfl rfl (pv_move (v := .bool _) rfl rfl) ?_
              refine xl_pure rfl rfl rfl (pv_move (v := .int _ _) rfl rfl) ?_
              refine xl_pure rfl rfl rfl (pv_move (v := .int _ _) rfl rfl) ?_
              refine xl_ndec rfl rfl rfl (pv_neq rfl rfl rfl) (fun h7_17 => ?_) (fun h7_17 => ?_)
              · skip
                refine xl_pure rfl rfl rfl (pv_pick_f (v := .bool _) rfl rfl rfl) ?_
                refine xl_nil ?_
                refine xthen_normal ?_
                refine xc_cond_f rfl ?_
                refine xc_skip ?_
                refine xthen_normal ?_
                refine xc_seq ?_
                refine xc_region ?_
                refine xl_pure rfl rfl rfl (pv_move (v := .string (bs _)) rfl rfl) ?_
                refine xl_heavy rfl rfl rfl (hv_call (g := 22) rfl rfl (c22 []) rfl) ?_
                rintro v9_1 H9_1 ⟨e9_1, x9_1, a9_1, c9_1, rfl, hd9_1, hr9_1, hxl9_1, hE9_1⟩
                have hX := hX.trans hE9_1
                have hX5_1 := hX5_1.trans hE9_1
                have hX6_1 := hX6_1.trans hE9_1
                refine xl_pure rfl rfl rfl (pv_move (v := .tuple _) rfl rfl) ?_
                refine xl_pure rfl rfl rfl (pv_extract (v := .slice _ _ _) rfl rfl rfl) ?_
                refine xl_pure rfl rfl rfl (pv_extract (v := .int _ _) rfl rfl rfl) ?_
                refine xl_pure rfl rfl rfl (pv_assign (v := .slice _ _ _) rfl rfl) ?_
                refine xl_pure rfl rfl rfl (pv_assign (v := .int _ _) rfl rfl) ?_
                refine xl_nil ?_
                refine xthen_normal ?_
                refine xc_seq ?_
                refine xc_region ?_
                refine xl_pure rfl rfl rfl (pv_move (v := .slice _ _ _) rfl rfl) ?_
                refine xl_heavy rfl rfl rfl (hv_call (g := 20) rfl rfl (c20 [] _ _ (hr5_1.ext hX5_1) (by first | omega | decide)) rfl) ?_
                rintro v10_1 H10_1 ⟨hc10_1, hE10_1⟩
                have hX := hX.trans hE10_1
                have hX5_1 := hX5_1.trans hE10_1
                have hX6_1 := hX6_1.trans hE10_1
                obtain rfl : v10_1 = .tuple #[.string (bs (putB [])), .int .i64 0] := by
                  rcases hc10_1 with ⟨h1, _⟩ | ⟨_, h⟩
                  · cases h1
                  · exact h
                refine xl_pure rfl rfl rfl (pv_move (v := .tuple _) rfl rfl) ?_
                refine xl_pure rfl rfl rfl (pv_extract (v := .string (bs _)) rfl rfl rfl) ?_
                refine xl_pure rfl rfl rfl (pv_extract (v := .int _ _) rfl rfl rfl) ?_
                refine xl_pure rfl rfl rfl (pv_assign (v := .string (bs _)) rfl rfl) ?_
                refine xl_pure rfl rfl rfl (pv_assign (v := .int _ _) rfl rfl) ?_
                refine xl_nil ?_
                refine xthen_normal ?_
                refine xc_seq ?_
                refine xc_region ?_
                refine xl_pure rfl rfl rfl (pv_move (v := .int _ _) rfl rfl) ?_
                refine xl_ndec rfl rfl rfl (pv_neq rfl rfl rfl) (fun h11_1 => ?_) (fun h11_1 => ?_)
                · exact absurd h11_1 (by decide)
                · skip
                  refine xl_pure rfl rfl rfl (pv_move (v := .bool _) rfl rfl) ?_
                  refine xl_skip rfl rfl rfl ?_
                  refine xl_skip rfl rfl rfl ?_
                  refine xl_skip rfl rfl rfl ?_
                  refine xl_skip rfl rfl rfl ?_
                  refine xl_skip rfl rfl rfl ?_
                  refine xl_skip rfl rfl rfl ?_
                  refine xl_skip rfl rfl rfl ?_
                  refine xl_pure rfl rfl rfl (pv_pick_t (v := .bool _) rfl rfl rfl) ?_
                  refine xl_pure rfl rfl rfl (pv_move (v := .bool _) rfl rfl) ?_
                  refine xl_pure rfl rfl rfl (pv_move (v := .int _ _) rfl rfl) ?_
                  refine xl_ndec rfl rfl rfl (pv_neq rfl rfl rfl) (fun h11_13 => ?_) (fun h11_13 => ?_)
                  · exact absurd h11_13 (by decide)
                  · skip
                    refine xl_pure rfl rfl rfl (pv_move (v := .bool _) rfl rfl) ?_
                    refine xl_skip rfl rfl rfl ?_
                    refine xl_skip rfl rfl rfl ?_
                    refine xl_skip rfl rfl rfl ?_
                    refine xl_skip rfl rfl rfl ?_
                    refine xl_skip rfl rfl rfl ?_
                    refine xl_skip rfl rfl rfl ?_
                    refine xl_skip rfl rfl rfl ?_
                    refine xl_pure rfl rfl rfl (pv_pick_t (v := .bool _) rfl rfl rfl) ?_
                    refine xl_pure rfl rfl rfl (pv_pick_t (v := .bool _) rfl rfl rfl) ?_
                    refine xl_pure rfl rfl rfl (pv_move (v := .bool _) rfl rfl) ?_
                    refine xl_heavy rfl rfl rfl (hv_call (g := 6) rfl rfl (c6) rfl) ?_
                    rintro v11_25 H11_25 ⟨rfl, hE11_25⟩
                    have hX := hX.trans hE11_25
                    have hX5_1 := hX5_1.trans hE11_25
                    have hX6_1 := hX6_1.trans hE11_25
                    refine xl_pure rfl rfl rfl (pv_pick_t (v := .bool _) rfl rfl rfl) ?_
                    refine xl_pure rfl rfl rfl (pv_assign (v := .bool _) rfl rfl) ?_
                    refine xl_nil ?_
                    refine xthen_normal ?_
                    refine xc_ret ?_
                    refine fin_ret (res1 (v := .bool _) rfl rfl) ?_
                    exact ⟨rfl, hX⟩
              · exact absurd (by decide) h7_17
            · exact absurd (by decide) h7_6
          · exact absurd rfl h7_2
      · skip
        refine xl_pure rfl rfl rfl (pv_move (v := .tuple _) rfl rfl) ?_
        refine xl_pure rfl rfl rfl (pv_extract (v := .string (bs _)) rfl rfl rfl) ?_
        refine xl_pure rfl rfl rfl (pv_extract (v := .int _ _) rfl rfl rfl) ?_
        refine xl_pure rfl rfl rfl (pv_assign (v := .string (bs _)) rfl rfl) ?_
        refine xl_pure rfl rfl rfl (pv_assign (v := .int _ _) rfl rfl) ?_
        refine xl_nil ?_
        refine xthen_normal ?_
        refine xc_seq ?_
        refine xc_region ?_
        refine xl_pure rfl rfl rfl (pv_move (v := .slice _ _ _) rfl rfl) ?_
        refine xl_heavy rfl rfl rfl (hv_call (g := 21) rfl rfl (c21 l la lc (hR.ext hX) (by omega)) rfl) ?_
        rintro v4_1 H4_1 ⟨hc4_1, hE4_1⟩
        have hX := hX.trans hE4_1
        obtain rfl : v4_1 = .tuple #[.string (bs (putB l)), .int .i64 0] := by
          rcases hc4_1 with ⟨h1, h⟩ | ⟨h1, h⟩
          · rw [hld] at h1; cases h1
          · exact h
        refine xl_pure rfl rfl rfl (pv_move (v := .tuple _) rfl rfl) ?_
        refine xl_pure rfl rfl rfl (pv_extract (v := .string (bs _)) rfl rfl rfl) ?_
        refine xl_pure rfl rfl rfl (pv_extract (v := .int _ _) rfl rfl rfl) ?_
        refine xl_pure rfl rfl rfl (pv_assign (v := .string (bs _)) rfl rfl) ?_
        refine xl_pure rfl rfl rfl (pv_assign (v := .int _ _) rfl rfl) ?_
        refine xl_nil ?_
        refine xthen_normal ?_
        refine xc_seq ?_
        refine xc_region ?_
        refine xl_pure rfl rfl rfl (pv_move (v := .string (bs _)) rfl rfl) ?_
        refine xl_heavy rfl rfl rfl (hv_call (g := 22) rfl rfl (c22 s) rfl) ?_
        rintro v5_1 H5_1 ⟨e5_1, x5_1, a5_1, c5_1, rfl, hd5_1, hr5_1, hxl5_1, hE5_1⟩
        have hX := hX.trans hE5_1
        have hX5_1 := Ext.refl H5_1
        rcases take_split hd5_1 with ⟨rfl, hpt⟩ | ⟨rfl, rfl⟩
        · skip
          refine xl_pure rfl rfl rfl (pv_move (v := .tuple _) rfl rfl) ?_
          refine xl_pure rfl rfl rfl (pv_extract (v := .slice _ _ _) rfl rfl rfl) ?_
          refine xl_pure rfl rfl rfl (pv_extract (v := .int _ _) rfl rfl rfl) ?_
          refine xl_pure rfl rfl rfl (pv_assign (v := .slice _ _ _) rfl rfl) ?_
          refine xl_pure rfl rfl rfl (pv_assign (v := .int _ _) rfl rfl) ?_
          refine xl_nil ?_
          refine xthen_normal ?_
          refine xc_seq ?_
          refine xc_region ?_
          refine xl_pure rfl rfl rfl (pv_move (v := .string (bs _)) rfl rfl) ?_
          refine xl_heavy rfl rfl rfl (hv_call (g := 23) rfl rfl (c23 s (by omega)) rfl) ?_
          rintro v6_1 H6_1 ⟨e6_1, x6_1, a6_1, c6_1, rfl, hd6_1, hr6_1, hxl6_1, hE6_1⟩
          have hX := hX.trans hE6_1
          have hX5_1 := hX5_1.trans hE6_1
          have hX6_1 := Ext.refl H6_1
          have q6_1 := hd5_1.symm.trans hd6_1
          simp only [Prod.mk.injEq] at q6_1
          obtain ⟨rfl, rfl⟩ := q6_1
          refine xl_pure rfl rfl rfl (pv_move (v := .tuple _) rfl rfl) ?_
          refine xl_pure rfl rfl rfl (pv_extract (v := .slice _ _ _) rfl rfl rfl) ?_
          refine xl_pure rfl rfl rfl (pv_extract (v := .int _ _) rfl rfl rfl) ?_
          refine xl_pure rfl rfl rfl (pv_assign (v := .slice _ _ _) rfl rfl) ?_
          refine xl_pure rfl rfl rfl (pv_assign (v := .int _ _) rfl rfl) ?_
          refine xl_nil ?_
          refine xthen_normal ?_
          refine xc_seq ?_
          refine xc_seq ?_
          refine xc_region ?_
          refine xl_pure rfl rfl rfl (pv_move (v := .string (bs _)) rfl rfl) ?_
          refine xl_pure rfl rfl rfl (pv_move (v := .string (bs _)) rfl rfl) ?_
          refine xl_ndec rfl rfl rfl (pv_neq_s rfl rfl rfl) (fun h7_2 => ?_) (fun h7_2 => ?_)
          · skip
            refine xl_pure rfl rfl rfl (pv_move (v := .bool _) rfl rfl) ?_
            refine xl_pure rfl rfl rfl (pv_move (v := .int _ _) rfl rfl) ?_
            refine xl_pure rfl rfl rfl (pv_move (v := .int _ _) rfl rfl) ?_
            refine xl_ndec rfl rfl rfl (pv_neq rfl rfl rfl) (fun h7_6 => ?_) (fun h7_6 => ?_)
            · skip
              refine xl_pure rfl rfl rfl (pv_pick_f (v := .bool _) rfl rfl rfl) ?_
              refine xl_pure rfl rfl rfl (pv_move (v := .bool _) rfl rfl) ?_
              refine xl_pure rfl rfl rfl (pv_move (v := .slice _ _ _) rfl rfl) ?_
              refine xl_pure rfl rfl rfl (pv_move (v := .slice _ _ _) rfl rfl) ?_
              refine xl_heavy rfl rfl rfl (hv_call (g := 11) rfl rfl (c11 _ _ _ _ _ _ (hr5_1.ext hX5_1) (hr6_1.ext hX6_1) (by first | omega | decide)) rfl) ?_
              rintro v7_11 H7_11 ⟨r7_11, rfl, hb7_11, rfl⟩
              obtain rfl : r7_11 = true := hb7_11.2 rfl
              refine xl_pure rfl rfl rfl (pv_not rfl rfl) ?_
              refine xl_pure rfl rfl rfl (pv_pick_f (v := .bool _) rfl rfl rfl) ?_
              refine xl_pure rfl rfl rfl (pv_move (v := .bool _) rfl rfl) ?_
              refine xl_pure rfl rfl rfl (pv_move (v := .int _ _) rfl rfl) ?_
              refine xl_pure rfl rfl rfl (pv_move (v := .int _ _) rfl rfl) ?_
              refine xl_ndec rfl rfl rfl (pv_neq rfl rfl rfl) (fun h7_17 => ?_) (fun h7_17 => ?_)
              · skip
                refine xl_pure rfl rfl rfl (pv_pick_f (v := .bool _) rfl rfl rfl) ?_
                refine xl_nil ?_
                refine xthen_normal ?_
                refine xc_cond_f rfl ?_
                refine xc_skip ?_
                refine xthen_normal ?_
                refine xc_seq ?_
                refine xc_region ?_
                refine xl_pure rfl rfl rfl (pv_move (v := .string (bs _)) rfl rfl) ?_
                refine xl_heavy rfl rfl rfl (hv_call (g := 22) rfl rfl (c22 (putB l)) rfl) ?_
                rintro v9_1 H9_1 ⟨e9_1, x9_1, a9_1, c9_1, rfl, hd9_1, hr9_1, hxl9_1, hE9_1⟩
                have hX := hX.trans hE9_1
                have hX5_1 := hX5_1.trans hE9_1
                have hX6_1 := hX6_1.trans hE9_1
                have hX9_1 := Ext.refl H9_1
                have q9_1 := (put_take hR.1 hld).symm.trans hd9_1
                simp only [Prod.mk.injEq] at q9_1
                obtain ⟨rfl, rfl⟩ := q9_1
                refine xl_pure rfl rfl rfl (pv_move (v := .tuple _) rfl rfl) ?_
                refine xl_pure rfl rfl rfl (pv_extract (v := .slice _ _ _) rfl rfl rfl) ?_
                refine xl_pure rfl rfl rfl (pv_extract (v := .int _ _) rfl rfl rfl) ?_
                refine xl_pure rfl rfl rfl (pv_assign (v := .slice _ _ _) rfl rfl) ?_
                refine xl_pure rfl rfl rfl (pv_assign (v := .int _ _) rfl rfl) ?_
                refine xl_nil ?_
                refine xthen_normal ?_
                refine xc_seq ?_
                refine xc_region ?_
                refine xl_pure rfl rfl rfl (pv_move (v := .slice _ _ _) rfl rfl) ?_
                refine xl_heavy rfl rfl rfl (hv_call (g := 20) rfl rfl (c20 x5_1 _ _ (hr5_1.ext hX5_1) (by first | omega | decide)) rfl) ?_
                rintro v10_1 H10_1 ⟨hc10_1, hE10_1⟩
                have hX := hX.trans hE10_1
                have hX5_1 := hX5_1.trans hE10_1
                have hX6_1 := hX6_1.trans hE10_1
                have hX9_1 := hX9_1.trans hE10_1
                obtain rfl : v10_1 = .tuple #[.string (bs (putB x5_1)), .int .i64 0] := by
                  rcases hc10_1 with ⟨h1, _⟩ | ⟨_, h⟩
                  · rw [hpt.1] at h1; cases h1
                  · exact h
                refine xl_pure rfl rfl rfl (pv_move (v := .tuple _) rfl rfl) ?_
                refine xl_pure rfl rfl rfl (pv_extract (v := .string (bs _)) rfl rfl rfl) ?_
                refine xl_pure rfl rfl rfl (pv_extract (v := .int _ _) rfl rfl rfl) ?_
                refine xl_pure rfl rfl rfl (pv_assign (v := .string (bs _)) rfl rfl) ?_
                refine xl_pure rfl rfl rfl (pv_assign (v := .int _ _) rfl rfl) ?_
                refine xl_nil ?_
                refine xthen_normal ?_
                refine xc_seq ?_
                refine xc_region ?_
                refine xl_pure rfl rfl rfl (pv_move (v := .int _ _) rfl rfl) ?_
                refine xl_ndec rfl rfl rfl (pv_neq rfl rfl rfl) (fun h11_1 => ?_) (fun h11_1 => ?_)
                · skip
                  refine xl_pure rfl rfl rfl (pv_move (v := .bool _) rfl rfl) ?_
                  refine xl_pure rfl rfl rfl (pv_move (v := .int _ _) rfl rfl) ?_
                  refine xl_dec rfl rfl rfl (pv_eql rfl rfl rfl) (fun h11_4 => ?_) (fun h11_4 => ?_)
                  · skip
                    refine xl_pure rfl rfl rfl (pv_move (v := .bool _) rfl rfl) ?_
                    refine xl_pure rfl rfl rfl (pv_move (v := .slice _ _ _) rfl rfl) ?_
                    refine xl_pure rfl rfl rfl (pv_move (v := .slice _ _ _) rfl rfl) ?_
                    refine xl_heavy rfl rfl rfl (hv_call (g := 11) rfl rfl (c11 l l _ _ _ _ (hr9_1.ext hX9_1) (hR.ext hX) (by omega)) rfl) ?_
                    rintro v11_8 H11_8 ⟨r11_8, rfl, hb11_8, rfl⟩
                    obtain rfl : r11_8 = true := hb11_8.2 rfl
                    refine xl_pure rfl rfl rfl (pv_pick_t (v := .bool _) rfl rfl rfl) ?_
                    refine xl_pure rfl rfl rfl (pv_pick_f (v := .bool _) rfl rfl rfl) ?_
                    refine xl_pure rfl rfl rfl (pv_move (v := .bool _) rfl rfl) ?_
                    refine xl_pure rfl rfl rfl (pv_move (v := .int _ _) rfl rfl) ?_
                    refine xl_ndec rfl rfl rfl (pv_neq rfl rfl rfl) (fun h11_13 => ?_) (fun h11_13 => ?_)
                    · skip
                      refine xl_pure rfl rfl rfl (pv_move (v := .bool _) rfl rfl) ?_
                      refine xl_pure rfl rfl rfl (pv_move (v := .int _ _) rfl rfl) ?_
                      refine xl_dec rfl rfl rfl (pv_eql rfl rfl rfl) (fun h11_16 => ?_) (fun h11_16 => ?_)
                      · skip
                        refine xl_pure rfl rfl rfl (pv_move (v := .bool _) rfl rfl) ?_
                        refine xl_pure rfl rfl rfl (pv_move (v := .string (bs _)) rfl rfl) ?_
                        refine xl_pure rfl rfl rfl (pv_move (v := .string (bs _)) rfl rfl) ?_
                        refine xl_dec rfl rfl rfl (pv_eql_s rfl rfl rfl) (fun h11_20 => ?_) (fun h11_20 => ?_)
                        · skip
                          refine xl_pure rfl rfl rfl (pv_pick_t (v := .bool _) rfl rfl rfl) ?_
                          refine xl_pure rfl rfl rfl (pv_pick_f (v := .bool _) rfl rfl rfl) ?_
                          refine xl_pure rfl rfl rfl (pv_pick_t (v := .bool _) rfl rfl rfl) ?_
                          refine xl_pure rfl rfl rfl (pv_move (v := .bool _) rfl rfl) ?_
                          refine xl_heavy rfl rfl rfl (hv_call (g := 6) rfl rfl (c6) rfl) ?_
                          rintro v11_25 H11_25 ⟨rfl, hE11_25⟩
                          have hX := hX.trans hE11_25
                          have hX5_1 := hX5_1.trans hE11_25
                          have hX6_1 := hX6_1.trans hE11_25
                          have hX9_1 := hX9_1.trans hE11_25
                          refine xl_pure rfl rfl rfl (pv_pick_t (v := .bool _) rfl rfl rfl) ?_
                          refine xl_pure rfl rfl rfl (pv_assign (v := .bool _) rfl rfl) ?_
                          refine xl_nil ?_
                          refine xthen_normal ?_
                          refine xc_ret ?_
                          refine fin_ret (res1 (v := .bool _) rfl rfl) ?_
                          exact ⟨rfl, hX⟩
                        · exact absurd hpt.2.2 h11_20
                      · exact absurd (by decide) h11_16
                    · exact absurd (by decide) h11_13
                  · exact absurd (by decide) h11_4
                · exact absurd (by decide) h11_1
              · exact absurd (by decide) h7_17
            · exact absurd (by decide) h7_6
          · exact absurd rfl h7_2
        · skip
          refine xl_pure rfl rfl rfl (pv_move (v := .tuple _) rfl rfl) ?_
          refine xl_pure rfl rfl rfl (pv_extract (v := .slice _ _ _) rfl rfl rfl) ?_
          refine xl_pure rfl rfl rfl (pv_extract (v := .int _ _) rfl rfl rfl) ?_
          refine xl_pure rfl rfl rfl (pv_assign (v := .slice _ _ _) rfl rfl) ?_
          refine xl_pure rfl rfl rfl (pv_assign (v := .int _ _) rfl rfl) ?_
          refine xl_nil ?_
          refine xthen_normal ?_
          refine xc_seq ?_
          refine xc_region ?_
          refine xl_pure rfl rfl rfl (pv_move (v := .string (bs _)) rfl rfl) ?_
          refine xl_heavy rfl rfl rfl (hv_call (g := 23) rfl rfl (c23 s (by omega)) rfl) ?_
          rintro v6_1 H6_1 ⟨e6_1, x6_1, a6_1, c6_1, rfl, hd6_1, hr6_1, hxl6_1, hE6_1⟩
          have hX := hX.trans hE6_1
          have hX5_1 := hX5_1.trans hE6_1
          have hX6_1 := Ext.refl H6_1
          have q6_1 := hd5_1.symm.trans hd6_1
          simp only [Prod.mk.injEq] at q6_1
          obtain ⟨rfl, rfl⟩ := q6_1
          refine xl_pure rfl rfl rfl (pv_move (v := .tuple _) rfl rfl) ?_
          refine xl_pure rfl rfl rfl (pv_extract (v := .slice _ _ _) rfl rfl rfl) ?_
          refine xl_pure rfl rfl rfl (pv_extract (v := .int _ _) rfl rfl rfl) ?_
          refine xl_pure rfl rfl rfl (pv_assign (v := .slice _ _ _) rfl rfl) ?_
          refine xl_pure rfl rfl rfl (pv_assign (v := .int _ _) rfl rfl) ?_
          refine xl_nil ?_
          refine xthen_normal ?_
          refine xc_seq ?_
          refine xc_seq ?_
          refine xc_region ?_
          refine xl_pure rfl rfl rfl (pv_move (v := .string (bs _)) rfl rfl) ?_
          refine xl_pure rfl rfl rfl (pv_move (v := .string (bs _)) rfl rfl) ?_
          refine xl_ndec rfl rfl rfl (pv_neq_s rfl rfl rfl) (fun h7_2 => ?_) (fun h7_2 => ?_)
          · skip
            refine xl_pure rfl rfl rfl (pv_move (v := .bool _) rfl rfl) ?_
            refine xl_pure rfl rfl rfl (pv_move (v := .int _ _) rfl rfl) ?_
            refine xl_pure rfl rfl rfl (pv_move (v := .int _ _) rfl rfl) ?_
            refine xl_ndec rfl rfl rfl (pv_neq rfl rfl rfl) (fun h7_6 => ?_) (fun h7_6 => ?_)
            · skip
              refine xl_pure rfl rfl rfl (pv_pick_f (v := .bool _) rfl rfl rfl) ?_
              refine xl_pure rfl rfl rfl (pv_move (v := .bool _) rfl rfl) ?_
              refine xl_pure rfl rfl rfl (pv_move (v := .slice _ _ _) rfl rfl) ?_
              refine xl_pure rfl rfl rfl (pv_move (v := .slice _ _ _) rfl rfl) ?_
              refine xl_heavy rfl rfl rfl (hv_call (g := 11) rfl rfl (c11 _ _ _ _ _ _ (hr5_1.ext hX5_1) (hr6_1.ext hX6_1) (by first | omega | decide)) rfl) ?_
              rintro v7_11 H7_11 ⟨r7_11, rfl, hb7_11, rfl⟩
              obtain rfl : r7_11 = true := hb7_11.2 rfl
              refine xl_pure rfl rfl rfl (pv_not rfl rfl) ?_
              refine xl_pure rfl rfl rfl (pv_pick_f (v := .bool _) rfl rfl rfl) ?_
              refine xl_pure rfl rfl rfl (pv_move (v := .bool _) rfl rfl) ?_
              refine xl_pure rfl rfl rfl (pv_move (v := .int _ _) rfl rfl) ?_
              refine xl_pure rfl rfl rfl (pv_move (v := .int _ _) rfl rfl) ?_
              refine xl_ndec rfl rfl rfl (pv_neq rfl rfl rfl) (fun h7_17 => ?_) (fun h7_17 => ?_)
              · skip
                refine xl_pure rfl rfl rfl (pv_pick_f (v := .bool _) rfl rfl rfl) ?_
                refine xl_nil ?_
                refine xthen_normal ?_
                refine xc_cond_f rfl ?_
                refine xc_skip ?_
                refine xthen_normal ?_
                refine xc_seq ?_
                refine xc_region ?_
                refine xl_pure rfl rfl rfl (pv_move (v := .string (bs _)) rfl rfl) ?_
                refine xl_heavy rfl rfl rfl (hv_call (g := 22) rfl rfl (c22 (putB l)) rfl) ?_
                rintro v9_1 H9_1 ⟨e9_1, x9_1, a9_1, c9_1, rfl, hd9_1, hr9_1, hxl9_1, hE9_1⟩
                have hX := hX.trans hE9_1
                have hX5_1 := hX5_1.trans hE9_1
                have hX6_1 := hX6_1.trans hE9_1
                have hX9_1 := Ext.refl H9_1
                have q9_1 := (put_take hR.1 hld).symm.trans hd9_1
                simp only [Prod.mk.injEq] at q9_1
                obtain ⟨rfl, rfl⟩ := q9_1
                refine xl_pure rfl rfl rfl (pv_move (v := .tuple _) rfl rfl) ?_
                refine xl_pure rfl rfl rfl (pv_extract (v := .slice _ _ _) rfl rfl rfl) ?_
                refine xl_pure rfl rfl rfl (pv_extract (v := .int _ _) rfl rfl rfl) ?_
                refine xl_pure rfl rfl rfl (pv_assign (v := .slice _ _ _) rfl rfl) ?_
                refine xl_pure rfl rfl rfl (pv_assign (v := .int _ _) rfl rfl) ?_
                refine xl_nil ?_
                refine xthen_normal ?_
                refine xc_seq ?_
                refine xc_region ?_
                refine xl_pure rfl rfl rfl (pv_move (v := .slice _ _ _) rfl rfl) ?_
                refine xl_heavy rfl rfl rfl (hv_call (g := 20) rfl rfl (c20 [] _ _ (hr5_1.ext hX5_1) (by first | omega | decide)) rfl) ?_
                rintro v10_1 H10_1 ⟨hc10_1, hE10_1⟩
                have hX := hX.trans hE10_1
                have hX5_1 := hX5_1.trans hE10_1
                have hX6_1 := hX6_1.trans hE10_1
                have hX9_1 := hX9_1.trans hE10_1
                obtain rfl : v10_1 = .tuple #[.string (bs (putB [])), .int .i64 0] := by
                  rcases hc10_1 with ⟨h1, _⟩ | ⟨_, h⟩
                  · cases h1
                  · exact h
                refine xl_pure rfl rfl rfl (pv_move (v := .tuple _) rfl rfl) ?_
                refine xl_pure rfl rfl rfl (pv_extract (v := .string (bs _)) rfl rfl rfl) ?_
                refine xl_pure rfl rfl rfl (pv_extract (v := .int _ _) rfl rfl rfl) ?_
                refine xl_pure rfl rfl rfl (pv_assign (v := .string (bs _)) rfl rfl) ?_
                refine xl_pure rfl rfl rfl (pv_assign (v := .int _ _) rfl rfl) ?_
                refine xl_nil ?_
                refine xthen_normal ?_
                refine xc_seq ?_
                refine xc_region ?_
                refine xl_pure rfl rfl rfl (pv_move (v := .int _ _) rfl rfl) ?_
                refine xl_ndec rfl rfl rfl (pv_neq rfl rfl rfl) (fun h11_1 => ?_) (fun h11_1 => ?_)
                · skip
                  refine xl_pure rfl rfl rfl (pv_move (v := .bool _) rfl rfl) ?_
                  refine xl_pure rfl rfl rfl (pv_move (v := .int _ _) rfl rfl) ?_
                  refine xl_dec rfl rfl rfl (pv_eql rfl rfl rfl) (fun h11_4 => ?_) (fun h11_4 => ?_)
                  · skip
                    refine xl_pure rfl rfl rfl (pv_move (v := .bool _) rfl rfl) ?_
                    refine xl_pure rfl rfl rfl (pv_move (v := .slice _ _ _) rfl rfl) ?_
                    refine xl_pure rfl rfl rfl (pv_move (v := .slice _ _ _) rfl rfl) ?_
                    refine xl_heavy rfl rfl rfl (hv_call (g := 11) rfl rfl (c11 l l _ _ _ _ (hr9_1.ext hX9_1) (hR.ext hX) (by omega)) rfl) ?_
                    rintro v11_8 H11_8 ⟨r11_8, rfl, hb11_8, rfl⟩
                    obtain rfl : r11_8 = true := hb11_8.2 rfl
                    refine xl_pure rfl rfl rfl (pv_pick_t (v := .bool _) rfl rfl rfl) ?_
                    refine xl_pure rfl rfl rfl (pv_pick_f (v := .bool _) rfl rfl rfl) ?_
                    refine xl_pure rfl rfl rfl (pv_move (v := .bool _) rfl rfl) ?_
                    refine xl_pure rfl rfl rfl (pv_move (v := .int _ _) rfl rfl) ?_
                    refine xl_ndec rfl rfl rfl (pv_neq rfl rfl rfl) (fun h11_13 => ?_) (fun h11_13 => ?_)
                    · exact absurd h11_13 (by decide)
                    · skip
                      refine xl_pure rfl rfl rfl (pv_move (v := .bool _) rfl rfl) ?_
                      refine xl_skip rfl rfl rfl ?_
                      refine xl_skip rfl rfl rfl ?_
                      refine xl_skip rfl rfl rfl ?_
                      refine xl_skip rfl rfl rfl ?_
                      refine xl_skip rfl rfl rfl ?_
                      refine xl_skip rfl rfl rfl ?_
                      refine xl_skip rfl rfl rfl ?_
                      refine xl_pure rfl rfl rfl (pv_pick_t (v := .bool _) rfl rfl rfl) ?_
                      refine xl_pure rfl rfl rfl (pv_pick_t (v := .bool _) rfl rfl rfl) ?_
                      refine xl_pure rfl rfl rfl (pv_move (v := .bool _) rfl rfl) ?_
                      refine xl_heavy rfl rfl rfl (hv_call (g := 6) rfl rfl (c6) rfl) ?_
                      rintro v11_25 H11_25 ⟨rfl, hE11_25⟩
                      have hX := hX.trans hE11_25
                      have hX5_1 := hX5_1.trans hE11_25
                      have hX6_1 := hX6_1.trans hE11_25
                      have hX9_1 := hX9_1.trans hE11_25
                      refine xl_pure rfl rfl rfl (pv_pick_t (v := .bool _) rfl rfl rfl) ?_
                      refine xl_pure rfl rfl rfl (pv_assign (v := .bool _) rfl rfl) ?_
                      refine xl_nil ?_
                      refine xthen_normal ?_
                      refine xc_ret ?_
                      refine fin_ret (res1 (v := .bool _) rfl rfl) ?_
                      exact ⟨rfl, hX⟩
                  · exact absurd (by decide) h11_4
                · exact absurd (by decide) h11_1
              · exact absurd (by decide) h7_17
            · exact absurd (by decide) h7_6
          · exact absurd rfl h7_2
end Go.XG
