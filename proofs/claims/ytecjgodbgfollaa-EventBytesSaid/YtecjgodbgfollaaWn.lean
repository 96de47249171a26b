/-
  Walks of the seat's functions over the logic XG: each function, what it computes. Printed by a program out of wip/walks.py.
-/
import Derived.Test.YtecjgodbgfollaaI
import Derived.Test.YtecjgodbgfollaaLn
import Derived.Test.YtecjgodbgfollaaNa
import Derived.Test.YtecjgodbgfollaaNb
import Derived.Test.YtecjgodbgfollaaNc
import Derived.Test.YtecjgodbgfollaaNd
import Derived.Test.YtecjgodbgfollaaNf
import Derived.Test.YtecjgodbgfollaaNg
import Derived.Test.YtecjgodbgfollaaE
import Derived.Test.YtecjgodbgfollaaWa
import Derived.Test.YtecjgodbgfollaaWb
import Derived.Test.YtecjgodbgfollaaWc
import Derived.Test.YtecjgodbgfollaaWd
import Derived.Test.YtecjgodbgfollaaWe
import Derived.Test.YtecjgodbgfollaaWf
import Derived.Test.YtecjgodbgfollaaWg
import Derived.Test.YtecjgodbgfollaaWh
import Derived.Test.YtecjgodbgfollaaWi
import Derived.Test.YtecjgodbgfollaaWj
import Derived.Test.YtecjgodbgfollaaE2
import Derived.Test.YtecjgodbgfollaaWk
import Derived.Test.YtecjgodbgfollaaWl
import Derived.Test.YtecjgodbgfollaaE3
import Derived.Test.YtecjgodbgfollaaWm
namespace Go.XG
open Go.Proofs Go.Pen
set_option maxRecDepth 4000
set_option maxHeartbeats 4000000
theorem c3 {O : Outer} {H : Heap} (l : List (List Int)) (la : Option Addr) (lc : Nat) (hR : Rows H la 4 l)  :
    FnC Try.prog 3 #[.slice la (List.length l) lc] O H (fun v H' => v = .bool true ∧ Ext H H') := by
  refine fn_enter (A := [.slice la (List.length l) lc]) Try.func3 rfl rfl ?_
  have hX := Ext.refl H
  refine xc_seq ?_
  refine xc_region ?_
  refine xl_pure rfl rfl rfl (pv_assign (v := .bool _) rfl rfl) ?_
  refine xl_nil ?_
  refine xthen_normal ?_
  refine xc_seq ?_
  refine xc_seq ?_
  refine xc_region ?_
  refine xl_pure rfl rfl rfl (pv_move (v := .slice _ _ _) rfl rfl) ?_
  refine xl_pure rfl rfl rfl (pv_len_l rfl rfl) ?_
  refine xl_dec rfl rfl rfl (pv_gtr rfl rfl rfl) (fun h1_2 => ?_) (fun h1_2 => ?_)
  · skip
    refine xl_nil ?_
    refine xthen_normal ?_
    refine xc_cond_t rfl ?_
    refine xc_seq ?_
    refine xc_region ?_
    refine xl_heavy rfl rfl rfl (hv_call (g := 6) rfl rfl (c6) rfl) ?_
    rintro v2_0 H2_0 ⟨rfl, hE2_0⟩
    have hX := hX.trans hE2_0
    refine xl_pure rfl rfl rfl (pv_assign (v := .bool _) rfl rfl) ?_
    refine xl_nil ?_
    refine xthen_normal ?_
    refine xc_ret ?_
    refine xthen_ret ?_
    refine fin_ret (res1 (v := .bool _) rfl rfl) ?_
    exact ⟨rfl, hX⟩
  · skip
    refine xl_nil ?_
    refine xthen_normal ?_
    refine xc_cond_f rfl ?_
    refine xc_skip ?_
    refine xthen_normal ?_
    refine xc_seq ?_
    refine xc_region ?_
    refine xl_pure rfl rfl rfl (pv_build_s (cs := [.slice _ _ _, .map _]) rfl rfl rfl) ?_
    refine xl_heavy rfl rfl rfl (hv_box rfl rfl) ?_
    rintro v3_1 H3_1 ⟨b3_1, rfl, hN3_1⟩
    have gb3_1 := hX.fresh hN3_1
    have hX := hX.trans hN3_1.ext
    have m3_1 := hN3_1.blk
    refine xl_pure rfl rfl rfl (pv_assign (v := .pointer _) rfl rfl) ?_
    refine xl_nil ?_
    refine xthen_normal ?_
    refine xc_seq ?_
    refine xc_seq ?_
    refine xc_region ?_
    refine xl_pure rfl rfl rfl (pv_assign (v := .int _ _) rfl rfl) ?_
    refine xl_nil ?_
    refine xthen_normal ?_
    refine xc_block ?_
    refine xc_loop (τ := List (List Int) × Option Addr × Nat × Option Nat × Nat) (fun t => [(0, .slice la (List.length l) lc), (3, .pointer (some ⟨b3_1, 0, none⟩)), (4, .int .i64 (t.2.2.2.2 : Nat))]) (fun t H' => (t.2.2.2.2 ≤ l.length) ∧ (OneEnd t.1) ∧ (LogAt H' H.size b3_1 t.2.1 t.2.2.1 t.2.2.2.1 t.1) ∧ (Ext H H')) (fun t H' => l.length - t.2.2.2.2) ([], none, 0, none, 0) ?_ ?_ ?_
    · exact ⟨rfl, rfl, rfl, trivial⟩
    · skip
      exact ⟨Nat.zero_le _, one_nil, LogAt.new m3_1 gb3_1.le, hX⟩
    · intro σ
      clear hX m3_1
      rintro ⟨x, va, vc, mv, i⟩ Hl5 ⟨hi, hon, hg, hX⟩
      replace hi : i ≤ l.length := hi
      replace hon : OneEnd x := hon
      replace hg : LogAt Hl5 H.size b3_1 va vc mv x := hg
      replace hX : Ext H Hl5 := hX
      show XC _ _ _ (upds σ [(0, .slice la (List.length l) lc), (3, .pointer (some ⟨b3_1, 0, none⟩)), (4, .int .i64 (i : Nat))]) _
      refine xc_seq ?_
      refine xc_seq ?_
      refine xc_region ?_
      refine xl_pure rfl rfl rfl (pv_move (v := .int _ _) rfl rfl) ?_
      refine xl_pure rfl rfl rfl (pv_move (v := .slice _ _ _) rfl rfl) ?_
      refine xl_pure rfl rfl rfl (pv_len_l rfl rfl) ?_
      refine xl_dec rfl rfl rfl (pv_lss rfl rfl rfl) (fun h5_3 => ?_) (fun h5_3 => ?_)
      · skip
        refine xl_nil ?_
        refine xthen_normal ?_
        refine xc_cond_t rfl ?_
        refine xc_skip ?_
        refine xthen_normal ?_
        refine xc_seq ?_
        refine xc_block ?_
        refine xc_seq ?_
        obtain ⟨ba, off, hae, hsa⟩ := hR.2.resolve_left (by omega)
        refine xp_start rfl (by repeat (first | with_reducible exact np_fin | with_reducible refine np_then ?_ | with_reducible refine np_block ?_)) (by kernel_rfl) ?_
        refine xp_pure (i := 0) rfl (by kernel_rfl) (by kernel_rfl) rfl rfl rfl (pv_move (v := .pointer _) rfl rfl) ?_
        refine xp_pure (i := 1) rfl (by kernel_rfl) (by kernel_rfl) rfl rfl rfl (pv_move (v := .slice _ _ _) rfl rfl) ?_
        refine xp_pure (i := 2) rfl (by kernel_rfl) (by kernel_rfl) rfl rfl rfl (pv_move (v := .int _ _) rfl rfl) ?_
        refine xp_pure (i := 3) rfl (by kernel_rfl) (by kernel_rfl) rfl rfl rfl (pv_indexAddr_l rfl (sl_eq hae) rfl (by omega)) ?_
        refine xp_pure (i := 4) rfl (by kernel_rfl) (by kernel_rfl) rfl rfl rfl (pv_fieldAddr rfl rfl) ?_
        refine xp_light (i := 5) rfl (by kernel_rfl) (by kernel_rfl) rfl rfl rfl (lv_load (v := .int _ _) rfl rfl (by exact ld_num (j := 1) (i := i) (RowsAt.ext hsa hX) hR.1 (by omega) (by omega))) ?_
        refine xp_pure (i := 6) rfl (by kernel_rfl) (by kernel_rfl) rfl rfl rfl (pv_move (v := .slice _ _ _) rfl rfl) ?_
        refine xp_pure (i := 7) rfl (by kernel_rfl) (by kernel_rfl) rfl rfl rfl (pv_move (v := .int _ _) rfl rfl) ?_
        refine xp_pure (i := 8) rfl (by kernel_rfl) (by kernel_rfl) rfl rfl rfl (pv_indexAddr_l rfl (sl_eq hae) rfl (by omega)) ?_
        refine xp_pure (i := 9) rfl (by kernel_rfl) (by kernel_rfl) rfl rfl rfl (pv_fieldAddr rfl rfl) ?_
        refine xp_light (i := 10) rfl (by kernel_rfl) (by kernel_rfl) rfl rfl rfl (lv_load (v := .int _ _) rfl rfl (by exact ld_num (j := 2) (i := i) (RowsAt.ext hsa hX) hR.1 (by omega) (by omega))) ?_
        refine xp_heavy2 (i := 11) (j := 15) (by kernel_rfl) ?_ ?_
        · skip
          refine xph_val rfl rfl rfl rfl (hv_call (g := 7) rfl rfl (c7 hg ((gr l i).getD 1 0) ((gr l i).getD 2 0)) rfl) (pd (by kernel_rfl) (pd (by kernel_rfl) pn)) ?_
          rintro v7_11 H7_11 ⟨rfl, hE7_11⟩
          have hg := hg.ext hE7_11
          have hX := hX.trans hE7_11
          refine ⟨okn, ?_⟩
          refine xp_pure (i := 12) rfl (by kernel_rfl) (by kernel_rfl) rfl rfl rfl (pv_move (v := .tuple _) rfl rfl) ?_
          refine xp_pure (i := 13) rfl (by kernel_rfl) (by kernel_rfl) rfl rfl rfl (pv_extract (v := .agg _) rfl rfl rfl) ?_
          refine xp_pure (i := 14) rfl (by kernel_rfl) (by kernel_rfl) rfl rfl rfl (pv_extract (v := .bool _) rfl rfl rfl) ?_
          refine xp_heavy (i := 15) (by kernel_rfl) ?_
          refine xph_val rfl rfl rfl rfl (hv_alloc rfl rfl) pn ?_
          rintro v7_15 H7_15 ⟨b7_15, rfl, hN7_15⟩
          have gb7_15 := hX.fresh hN7_15
          have nhg_7_15 := hg.apart hN7_15
          have hg := hg.ext hN7_15.ext
          have hX := hX.trans hN7_15.ext
          have m7_15 := hN7_15.blk
          refine ⟨okn, ?_⟩
          refine xp_heavy (i := 16) (by kernel_rfl) ?_
          refine xph_store rfl rfl rfl (hv_storeA (vs := ints (ofR x ((gr l i).getD 1 0) ((gr l i).getD 2 0))) rfl rfl rfl (m7_15) ((List.length_map _).trans (ofR_len hg.wide)) (by rfl) (ints_one _)) pn ?_
          rintro v7_16 H7_16 ⟨hU7_16, hZ7_16⟩
          have hg := hg.off hU7_16.but (nhg_7_15)
          have hX := hX.upd hU7_16.but gb7_15
          have m7_15 := hU7_16.blk
          refine ⟨okn, ?_⟩
          refine xp_pure (i := 17) rfl (by kernel_rfl) (by kernel_rfl) rfl rfl rfl (pv_assign (v := .bool _) rfl rfl) ?_
          refine xp_done (by kernel_rfl) ?_
          refine xthen_normal ?_
          refine xc_seq ?_
          refine xc_region ?_
          refine xl_pure rfl rfl rfl (pv_move (v := .pointer _) rfl rfl) ?_
          refine xl_pure rfl rfl rfl (pv_move (v := .slice _ _ _) rfl rfl) ?_
          refine xl_pure rfl rfl rfl (pv_move (v := .int _ _) rfl rfl) ?_
          refine xl_pure rfl rfl rfl (pv_indexAddr_l rfl (sl_eq hae) rfl (by omega)) ?_
          refine xl_light rfl rfl rfl (lv_load (v := .agg _) rfl rfl (by exact ld_row' (i := i) (RowsAt.ext hsa hX) hR.1 (by omega))) ?_
          refine xl_heavy rfl rfl rfl (hv_call (g := 8) rfl rfl (c8r hg (gr l i) (hR.1.get (by omega))) rfl) ?_
          rintro v8_5 H8_5 ⟨e8_5, l8_5, va8_5, vc8_5, mv8_5, rfl, hd8_5, hg8_5, hK8_5, hW8_5⟩
          have hX := hX.keepB hK8_5 (fun j hj => (hg.ft j hj).1) (Nat.le_refl _)
          refine xl_pure rfl rfl rfl (pv_assign (v := .int _ _) rfl rfl) ?_
          refine xl_nil ?_
          refine xthen_normal ?_
          refine xc_seq ?_
          refine xc_region ?_
          refine xl_pure rfl rfl rfl (pv_move (v := .bool _) rfl rfl) ?_
          refine xl_pure rfl rfl rfl (pv_move (v := .bool _) rfl rfl) ?_
          cases hof : (ofI x ((gr l i).getD 1 0) ((gr l i).getD 2 0)).isSome
          · skip
            refine xl_skip rfl rfl rfl ?_
            refine xl_skip rfl rfl rfl ?_
            refine xl_pure rfl rfl rfl (pv_pick_f (v := .bool _) rfl rfl rfl) ?_
            refine xl_nil ?_
            refine xthen_normal ?_
            refine xc_cond_f rfl ?_
            refine xc_skip ?_
            refine xblock_normal ?_
            refine xthen_normal ?_
            refine xc_region ?_
            refine xl_pure rfl rfl rfl (pv_move (v := .int _ _) rfl rfl) ?_
            refine xl_pure rfl rfl rfl (pv_add rfl rfl rfl (fit_i64 (by omega))) ?_
            refine xl_pure rfl rfl rfl (pv_assign (v := .int _ _) rfl rfl) ?_
            refine xl_nil ?_
            refine xthen_normal ?_
            exact ⟨(l8_5, _, _, _, i + 1), ⟨rfl, rfl, rfl, trivial⟩, ⟨by (try simp only); omega, one_keep hon (hR.1.get (by omega)) hd8_5, hg8_5, hX⟩, by (try simp only); omega⟩
          · skip
            refine xl_pure rfl rfl rfl (pv_move (v := .int _ _) rfl rfl) ?_
            refine xl_dec rfl rfl rfl (pv_eql rfl rfl rfl) (fun h9_3 => ?_) (fun h9_3 => ?_)
            · exact absurd h9_3 (add_there (hR.1.get (by omega)) hd8_5 hof)
            · skip
              refine xl_pure rfl rfl rfl (pv_pick_t (v := .bool _) rfl rfl rfl) ?_
              refine xl_nil ?_
              refine xthen_normal ?_
              refine xc_cond_f rfl ?_
              refine xc_skip ?_
              refine xblock_normal ?_
              refine xthen_normal ?_
              refine xc_region ?_
              refine xl_pure rfl rfl rfl (pv_move (v := .int _ _) rfl rfl) ?_
              refine xl_pure rfl rfl rfl (pv_add rfl rfl rfl (fit_i64 (by omega))) ?_
              refine xl_pure rfl rfl rfl (pv_assign (v := .int _ _) rfl rfl) ?_
              refine xl_nil ?_
              refine xthen_normal ?_
              exact ⟨(l8_5, _, _, _, i + 1), ⟨rfl, rfl, rfl, trivial⟩, ⟨by (try simp only); omega, one_keep hon (hR.1.get (by omega)) hd8_5, hg8_5, hX⟩, by (try simp only); omega⟩
        · skip
          refine xph_val rfl rfl rfl rfl (hv_alloc rfl rfl) (pk (by kernel_rfl) (pk (by kernel_rfl) pn)) ?_
          rintro v7_15 H7_15 ⟨b7_15, rfl, hN7_15⟩
          have gb7_15 := hX.fresh hN7_15
          have nhg_7_15 := hg.apart hN7_15
          have hg := hg.ext hN7_15.ext
          have hX := hX.trans hN7_15.ext
          have m7_15 := hN7_15.blk
          refine ⟨(okc (lv_load (v := .int _ _) rfl rfl (by exact ld_num (j := 2) (i := i) (RowsAt.ext hsa hX) hR.1 (by omega) (by omega))) (okc (lv_load (v := .int _ _) rfl rfl (by exact ld_num (j := 1) (i := i) (RowsAt.ext hsa hX) hR.1 (by omega) (by omega))) okn)), ?_⟩
          refine xp_heavy (i := 11) (by kernel_rfl) ?_
          refine xph_val rfl rfl rfl rfl (hv_call (g := 7) rfl rfl (c7 hg ((gr l i).getD 1 0) ((gr l i).getD 2 0)) rfl) (pd (by kernel_rfl) (pd (by kernel_rfl) pn)) ?_
          rintro v7_11 H7_11 ⟨rfl, hE7_11⟩
          have hg := hg.ext hE7_11
          have m7_15 := m7_15.ext hE7_11
          have hX := hX.trans hE7_11
          refine ⟨okn, ?_⟩
          refine xp_pure (i := 12) rfl (by kernel_rfl) (by kernel_rfl) rfl rfl rfl (pv_move (v := .tuple _) rfl rfl) ?_
          refine xp_pure (i := 13) rfl (by kernel_rfl) (by kernel_rfl) rfl rfl rfl (pv_extract (v := .agg _) rfl rfl rfl) ?_
          refine xp_pure (i := 14) rfl (by kernel_rfl) (by kernel_rfl) rfl rfl rfl (pv_extract (v := .bool _) rfl rfl rfl) ?_
          refine xp_heavy (i := 16) (by kernel_rfl) ?_
          refine xph_store rfl rfl rfl (hv_storeA (vs := ints (ofR x ((gr l i).getD 1 0) ((gr l i).getD 2 0))) rfl rfl rfl (m7_15) ((List.length_map _).trans (ofR_len hg.wide)) (by rfl) (ints_one _)) pn ?_
          rintro v7_16 H7_16 ⟨hU7_16, hZ7_16⟩
          have hg := hg.off hU7_16.but (nhg_7_15)
          have hX := hX.upd hU7_16.but gb7_15
          have m7_15 := hU7_16.blk
          refine ⟨okn, ?_⟩
          refine xp_pure (i := 17) rfl (by kernel_rfl) (by kernel_rfl) rfl rfl rfl (pv_assign (v := .bool _) rfl rfl) ?_
          refine xp_done (by kernel_rfl) ?_
          refine xthen_normal ?_
          refine xc_seq ?_
          refine xc_region ?_
          refine xl_pure rfl rfl rfl (pv_move (v := .pointer _) rfl rfl) ?_
          refine xl_pure rfl rfl rfl (pv_move (v := .slice _ _ _) rfl rfl) ?_
          refine xl_pure rfl rfl rfl (pv_move (v := .int _ _) rfl rfl) ?_
          refine xl_pure rfl rfl rfl (pv_indexAddr_l rfl (sl_eq hae) rfl (by omega)) ?_
          refine xl_light rfl rfl rfl (lv_load (v := .agg _) rfl rfl (by exact ld_row' (i := i) (RowsAt.ext hsa hX) hR.1 (by omega))) ?_
          refine xl_heavy rfl rfl rfl (hv_call (g := 8) rfl rfl (c8r hg (gr l i) (hR.1.get (by omega))) rfl) ?_
          rintro v8_5 H8_5 ⟨e8_5, l8_5, va8_5, vc8_5, mv8_5, rfl, hd8_5, hg8_5, hK8_5, hW8_5⟩
          have hX := hX.keepB hK8_5 (fun j hj => (hg.ft j hj).1) (Nat.le_refl _)
          refine xl_pure rfl rfl rfl (pv_assign (v := .int _ _) rfl rfl) ?_
          refine xl_nil ?_
          refine xthen_normal ?_
          refine xc_seq ?_
          refine xc_region ?_
          refine xl_pure rfl rfl rfl (pv_move (v := .bool _) rfl rfl) ?_
          refine xl_pure rfl rfl rfl (pv_move (v := .bool _) rfl rfl) ?_
          cases hof : (ofI x ((gr l i).getD 1 0) ((gr l i).getD 2 0)).isSome
          · skip
            refine xl_skip rfl rfl rfl ?_
            refine xl_skip rfl rfl rfl ?_
            refine xl_pure rfl rfl rfl (pv_pick_f (v := .bool _) rfl rfl rfl) ?_
            refine xl_nil ?_
            refine xthen_normal ?_
            refine xc_cond_f rfl ?_
            refine xc_skip ?_
            refine xblock_normal ?_
            refine xthen_normal ?_
            refine xc_region ?_
            refine xl_pure rfl rfl rfl (pv_move (v := .int _ _) rfl rfl) ?_
            refine xl_pure rfl rfl rfl (pv_add rfl rfl rfl (fit_i64 (by omega))) ?_
            refine xl_pure rfl rfl rfl (pv_assign (v := .int _ _) rfl rfl) ?_
            refine xl_nil ?_
            refine xthen_normal ?_
            exact ⟨(l8_5, _, _, _, i + 1), ⟨rfl, rfl, rfl, trivial⟩, ⟨by (try simp only); omega, one_keep hon (hR.1.get (by omega)) hd8_5, hg8_5, hX⟩, by (try simp only); omega⟩
          · skip
            refine xl_pure rfl rfl rfl (pv_move (v := .int _ _) rfl rfl) ?_
            refine xl_dec rfl rfl rfl (pv_eql rfl rfl rfl) (fun h9_3 => ?_) (fun h9_3 => ?_)
            · exact absurd h9_3 (add_there (hR.1.get (by omega)) hd8_5 hof)
            · skip
              refine xl_pure rfl rfl rfl (pv_pick_t (v := .bool _) rfl rfl rfl) ?_
              refine xl_nil ?_
              refine xthen_normal ?_
              refine xc_cond_f rfl ?_
              refine xc_skip ?_
              refine xblock_normal ?_
              refine xthen_normal ?_
              refine xc_region ?_
              refine xl_pure rfl rfl rfl (pv_move (v := .int _ _) rfl rfl) ?_
              refine xl_pure rfl rfl rfl (pv_add rfl rfl rfl (fit_i64 (by omega))) ?_
              refine xl_pure rfl rfl rfl (pv_assign (v := .int _ _) rfl rfl) ?_
              refine xl_nil ?_
              refine xthen_normal ?_
              exact ⟨(l8_5, _, _, _, i + 1), ⟨rfl, rfl, rfl, trivial⟩, ⟨by (try simp only); omega, one_keep hon (hR.1.get (by omega)) hd8_5, hg8_5, hX⟩, by (try simp only); omega⟩
      · skip
        refine xl_nil ?_
        refine xthen_normal ?_
        refine xc_cond_f rfl ?_
        refine xc_exit ?_
        refine xthen_exit ?_
        refine xthen_exit ?_
        refine xblock_same ?_
        refine xthen_normal ?_
        refine xc_seq ?_
        refine xc_region ?_
        refine xl_pure rfl rfl rfl (pv_move (v := .pointer _) rfl rfl) ?_
        refine xl_heavy rfl rfl rfl (hv_call (g := 9) rfl rfl (c9 hg) rfl) ?_
        rintro v11_1 H11_1 ⟨a11_1, c11_1, rfl, hR11_1, hA11_1, hO11_1, hE11_1⟩
        have hX11_1 := Ext.refl H11_1
        have hX := hX.trans hE11_1
        have hg := hg.ext hE11_1
        refine xl_pure rfl rfl rfl (pv_assign (v := .slice _ _ _) rfl rfl) ?_
        refine xl_nil ?_
        refine xthen_normal ?_
        refine xc_seq ?_
        refine xc_seq ?_
        refine xc_region ?_
        refine xl_pure rfl rfl rfl (pv_assign (v := .int _ _) rfl rfl) ?_
        refine xl_nil ?_
        refine xthen_normal ?_
        refine xc_block ?_
        refine xc_loop (τ := Nat) (fun t => [(3, .pointer (some ⟨b3_1, 0, none⟩)), (8, .slice a11_1 (List.length x) c11_1), (9, .int .i64 (t : Nat))]) (fun t H' => (t ≤ x.length) ∧ (Ext H11_1 H') ∧ (Ext H H')) (fun t H' => x.length - t) 0 ?_ ?_ ?_
        · exact ⟨rfl, rfl, rfl, trivial⟩
        · skip
          exact ⟨Nat.zero_le _, hX11_1, hX⟩
        · intro σ
          clear hX hX11_1
          rintro k Hl13 ⟨hk, hX11_1, hX⟩
          replace hk : k ≤ x.length := hk
          replace hX11_1 : Ext H11_1 Hl13 := hX11_1
          replace hX : Ext H Hl13 := hX
          show XC _ _ _ (upds σ [(3, .pointer (some ⟨b3_1, 0, none⟩)), (8, .slice a11_1 (List.length x) c11_1), (9, .int .i64 (k : Nat))]) _
          refine xc_seq ?_
          refine xc_seq ?_
          refine xc_region ?_
          refine xl_pure rfl rfl rfl (pv_move (v := .int _ _) rfl rfl) ?_
          refine xl_pure rfl rfl rfl (pv_move (v := .slice _ _ _) rfl rfl) ?_
          refine xl_pure rfl rfl rfl (pv_len_l rfl rfl) ?_
          refine xl_dec rfl rfl rfl (pv_lss rfl rfl rfl) (fun h13_3 => ?_) (fun h13_3 => ?_)
          · skip
            refine xl_nil ?_
            refine xthen_normal ?_
            refine xc_cond_t rfl ?_
            refine xc_skip ?_
            refine xthen_normal ?_
            refine xc_seq ?_
            refine xc_block ?_
            refine xc_seq ?_
            obtain ⟨wa, wo, hwe, hwa⟩ := hR11_1.2.resolve_left (by omega)
            have hone := hon.one k (by omega)
            have hupk := hon.stood.up (k - 1)
            have hxl := hon.stood.len
            refine xp_start rfl (by repeat (first | with_reducible exact np_fin | with_reducible refine np_then ?_ | with_reducible refine np_block ?_)) (by kernel_rfl) ?_
            refine xp_pure (i := 0) rfl (by kernel_rfl) (by kernel_rfl) rfl rfl rfl (pv_move (v := .pointer _) rfl rfl) ?_
            refine xp_pure (i := 1) rfl (by kernel_rfl) (by kernel_rfl) rfl rfl rfl (pv_move (v := .slice _ _ _) rfl rfl) ?_
            refine xp_pure (i := 2) rfl (by kernel_rfl) (by kernel_rfl) rfl rfl rfl (pv_move (v := .int _ _) rfl rfl) ?_
            refine xp_pure (i := 3) rfl (by kernel_rfl) (by kernel_rfl) rfl rfl rfl (pv_indexAddr_l rfl (sl_eq hwe) rfl (by omega)) ?_
            refine xp_pure (i := 4) rfl (by kernel_rfl) (by kernel_rfl) rfl rfl rfl (pv_fieldAddr rfl rfl) ?_
            refine xp_light (i := 5) rfl (by kernel_rfl) (by kernel_rfl) rfl rfl rfl (lv_load (v := .int _ _) rfl rfl (by exact ld_num (j := 1) (i := k) (RowsAt.ext hwa hX11_1) hR11_1.1 (by omega) (by omega))) ?_
            refine xp_pure (i := 6) rfl (by kernel_rfl) (by kernel_rfl) rfl rfl rfl (pv_move (v := .slice _ _ _) rfl rfl) ?_
            refine xp_pure (i := 7) rfl (by kernel_rfl) (by kernel_rfl) rfl rfl rfl (pv_move (v := .int _ _) rfl rfl) ?_
            refine xp_pure (i := 8) rfl (by kernel_rfl) (by kernel_rfl) rfl rfl rfl (pv_indexAddr_l rfl (sl_eq hwe) rfl (by omega)) ?_
            refine xp_pure (i := 9) rfl (by kernel_rfl) (by kernel_rfl) rfl rfl rfl (pv_fieldAddr rfl rfl) ?_
            refine xp_light (i := 10) rfl (by kernel_rfl) (by kernel_rfl) rfl rfl rfl (lv_load (v := .int _ _) rfl rfl (by exact ld_num (j := 2) (i := k) (RowsAt.ext hwa hX11_1) hR11_1.1 (by omega) (by omega))) ?_
            refine xp_heavy2 (i := 11) (j := 15) (by kernel_rfl) ?_ ?_
            · skip
              refine xph_val rfl rfl rfl rfl (hv_call (g := 7) rfl rfl (c7 (hg.ext hX11_1) ((gr x k).getD 1 0) ((gr x k).getD 2 0)) rfl) (pd (by kernel_rfl) (pd (by kernel_rfl) pn)) ?_
              rintro v15_11 H15_11 ⟨rfl, hE15_11⟩
              have hX := hX.trans hE15_11
              have hX11_1 := hX11_1.trans hE15_11
              rw [hone]
              refine ⟨okn, ?_⟩
              refine xp_pure (i := 12) rfl (by kernel_rfl) (by kernel_rfl) rfl rfl rfl (pv_move (v := .tuple _) rfl rfl) ?_
              refine xp_pure (i := 13) rfl (by kernel_rfl) (by kernel_rfl) rfl rfl rfl (pv_extract (v := .agg _) rfl rfl rfl) ?_
              refine xp_pure (i := 14) rfl (by kernel_rfl) (by kernel_rfl) rfl rfl rfl (pv_extract (v := .bool _) rfl rfl rfl) ?_
              refine xp_heavy (i := 15) (by kernel_rfl) ?_
              refine xph_val rfl rfl rfl rfl (hv_alloc rfl rfl) pn ?_
              rintro v15_15 H15_15 ⟨b15_15, rfl, hN15_15⟩
              have gb15_15 := hX.fresh hN15_15
              have gb15_15_hX11_1 := hX11_1.fresh hN15_15
              have hX := hX.trans hN15_15.ext
              have hX11_1 := hX11_1.trans hN15_15.ext
              have m15_15 := hN15_15.blk
              refine ⟨okn, ?_⟩
              refine xp_heavy (i := 16) (by kernel_rfl) ?_
              refine xph_store rfl rfl rfl (hv_storeA (vs := ints (ofR x ((gr x k).getD 1 0) ((gr x k).getD 2 0))) rfl rfl rfl (m15_15) ((List.length_map _).trans (ofR_len hg.wide)) (by rfl) (ints_one _)) pn ?_
              rintro v15_16 H15_16 ⟨hU15_16, hZ15_16⟩
              have hX11_1 := hX11_1.upd hU15_16.but gb15_15_hX11_1
              have hX := hX.upd hU15_16.but gb15_15
              have m15_15 := hU15_16.blk
              refine ⟨okn, ?_⟩
              refine xp_pure (i := 17) rfl (by kernel_rfl) (by kernel_rfl) rfl rfl rfl (pv_assign (v := .bool _) rfl rfl) ?_
              refine xp_done (by kernel_rfl) ?_
              refine xthen_normal ?_
              refine xc_seq ?_
              refine xp_start rfl (by repeat (first | with_reducible exact np_fin | with_reducible refine np_then ?_ | with_reducible refine np_block ?_)) (by kernel_rfl) ?_
              refine xp_pure (i := 0) rfl (by kernel_rfl) (by kernel_rfl) rfl rfl rfl (pv_move (v := .bool _) rfl rfl) ?_
              refine xp_pure (i := 1) rfl (by kernel_rfl) (by kernel_rfl) rfl rfl rfl (pv_not rfl rfl) ?_
              refine xp_pure (i := 2) rfl (by kernel_rfl) (by kernel_rfl) rfl rfl rfl (pv_move (v := .bool _) rfl rfl) ?_
              refine xp_light (i := 3) rfl (by kernel_rfl) (by kernel_rfl) rfl rfl rfl (lv_load (v := .agg _) rfl rfl (ld_blk_a m15_15 rfl ((List.length_map _).trans (ofR_len hg.wide)))) ?_
              refine xp_pure (i := 4) rfl (by kernel_rfl) (by kernel_rfl) rfl rfl rfl (pv_move (v := .slice _ _ _) rfl rfl) ?_
              refine xp_pure (i := 5) rfl (by kernel_rfl) (by kernel_rfl) rfl rfl rfl (pv_move (v := .int _ _) rfl rfl) ?_
              refine xp_pure (i := 6) rfl (by kernel_rfl) (by kernel_rfl) rfl rfl rfl (pv_indexAddr_l rfl (sl_eq hwe) rfl (by omega)) ?_
              refine xp_light (i := 7) rfl (by kernel_rfl) (by kernel_rfl) rfl rfl rfl (lv_load (v := .agg _) rfl rfl (by exact ld_row' (i := k) (RowsAt.ext hwa hX11_1) hR11_1.1 (by omega))) ?_
              refine xp_ndec (i := 8) rfl (by kernel_rfl) (by kernel_rfl) rfl rfl rfl (pv_neq_st (ofR x ((gr x k).getD 1 0) ((gr x k).getD 2 0)) (gr x k) rfl rfl rfl (ofR_len hg.wide) (hg.wide.get (by omega))) (fun h16_8 => ?_) (fun h16_8 => ?_)
              · skip
                refine xp_pure (i := 9) rfl (by kernel_rfl) (by kernel_rfl) rfl rfl rfl (pv_pick_f (v := .bool _) rfl rfl rfl) ?_
                refine xp_pure (i := 10) rfl (by kernel_rfl) (by kernel_rfl) rfl rfl rfl (pv_move (v := .bool _) rfl rfl) ?_
                refine xp_pure (i := 11) rfl (by kernel_rfl) (by kernel_rfl) rfl rfl rfl (pv_move (v := .int _ _) rfl rfl) ?_
                refine xp_dec (i := 12) rfl (by kernel_rfl) (by kernel_rfl) rfl rfl rfl (pv_gtr rfl rfl rfl) (fun h16_12 => ?_) (fun h16_12 => ?_)
                · skip
                  refine xp_pure (i := 13) rfl (by kernel_rfl) (by kernel_rfl) rfl rfl rfl (pv_move (v := .bool _) rfl rfl) ?_
                  refine xp_pure (i := 14) rfl (by kernel_rfl) (by kernel_rfl) rfl rfl rfl (pv_move (v := .slice _ _ _) rfl rfl) ?_
                  refine xp_pure (i := 15) rfl (by kernel_rfl) (by kernel_rfl) rfl rfl rfl (pv_move (v := .int _ _) rfl rfl) ?_
                  refine xp_pure (i := 16) rfl (by kernel_rfl) (by kernel_rfl) rfl rfl rfl (pv_indexAddr_l rfl (sl_eq hwe) rfl (by omega)) ?_
                  refine xp_pure (i := 17) rfl (by kernel_rfl) (by kernel_rfl) rfl rfl rfl (pv_fieldAddr rfl rfl) ?_
                  refine xp_light (i := 18) rfl (by kernel_rfl) (by kernel_rfl) rfl rfl rfl (lv_load (v := .int _ _) rfl rfl (by exact ld_num (j := 0) (i := k) (RowsAt.ext hwa hX11_1) hR11_1.1 (by omega) (by omega))) ?_
                  refine xp_pure (i := 19) rfl (by kernel_rfl) (by kernel_rfl) rfl rfl rfl (pv_move (v := .slice _ _ _) rfl rfl) ?_
                  refine xp_pure (i := 20) rfl (by kernel_rfl) (by kernel_rfl) rfl rfl rfl (pv_move (v := .int _ _) rfl rfl) ?_
                  refine xp_pure (i := 21) rfl (by kernel_rfl) (by kernel_rfl) rfl rfl rfl (pv_sub rfl rfl rfl (fit_i64 (by omega))) ?_
                  refine xp_pure (i := 22) rfl (by kernel_rfl) (by kernel_rfl) rfl rfl rfl (pv_indexAddr_l rfl (sl_eq hwe) rfl (by omega)) ?_
                  refine xp_pure (i := 23) rfl (by kernel_rfl) (by kernel_rfl) rfl rfl rfl (pv_fieldAddr rfl rfl) ?_
                  refine xp_light (i := 24) rfl (by kernel_rfl) (by kernel_rfl) rfl rfl rfl (lv_load (v := .int _ _) rfl rfl (by rw [lastIx (by omega)]; exact ld_num (j := 0) (i := k - 1) (RowsAt.ext hwa hX11_1) hR11_1.1 (by omega) (by omega))) ?_
                  refine xp_dec (i := 25) rfl (by kernel_rfl) (by kernel_rfl) rfl rfl rfl (pv_lss rfl rfl rfl) (fun h16_25 => ?_) (fun h16_25 => ?_)
                  · exact absurd h16_25 (by have h1 := hupk (by omega); rw [show k - 1 + 1 = k by omega] at h1; omega)
                  · skip
                    refine xp_pure (i := 26) rfl (by kernel_rfl) (by kernel_rfl) rfl rfl rfl (pv_pick_t (v := .bool _) rfl rfl rfl) ?_
                    refine xp_pure (i := 27) rfl (by kernel_rfl) (by kernel_rfl) rfl rfl rfl (pv_pick_f (v := .bool _) rfl rfl rfl) ?_
                    refine xp_done (by kernel_rfl) ?_
                    refine xthen_normal ?_
                    refine xc_cond_f rfl ?_
                    refine xc_skip ?_
                    refine xblock_normal ?_
                    refine xthen_normal ?_
                    refine xc_region ?_
                    refine xl_pure rfl rfl rfl (pv_move (v := .int _ _) rfl rfl) ?_
                    refine xl_pure rfl rfl rfl (pv_add rfl rfl rfl (fit_i64 (by omega))) ?_
                    refine xl_pure rfl rfl rfl (pv_assign (v := .int _ _) rfl rfl) ?_
                    refine xl_nil ?_
                    refine xthen_normal ?_
                    exact ⟨k + 1, ⟨rfl, rfl, rfl, trivial⟩, ⟨by (try simp only); omega, hX11_1, hX⟩, by (try simp only); omega⟩
                · skip
                  refine xp_pure (i := 13) rfl (by kernel_rfl) (by kernel_rfl) rfl rfl rfl (pv_move (v := .bool _) rfl rfl) ?_
                  refine xp_skip (i := 14) rfl (by kernel_rfl) (by kernel_rfl) rfl rfl rfl ?_
                  refine xp_skip (i := 15) rfl (by kernel_rfl) (by kernel_rfl) rfl rfl rfl ?_
                  refine xp_skip (i := 16) rfl (by kernel_rfl) (by kernel_rfl) rfl rfl rfl ?_
                  refine xp_skip (i := 17) rfl (by kernel_rfl) (by kernel_rfl) rfl rfl rfl ?_
                  refine xp_skip (i := 18) rfl (by kernel_rfl) (by kernel_rfl) rfl rfl rfl ?_
                  refine xp_skip (i := 19) rfl (by kernel_rfl) (by kernel_rfl) rfl rfl rfl ?_
                  refine xp_skip (i := 20) rfl (by kernel_rfl) (by kernel_rfl) rfl rfl rfl ?_
                  refine xp_skip (i := 21) rfl (by kernel_rfl) (by kernel_rfl) rfl rfl rfl ?_
                  refine xp_skip (i := 22) rfl (by kernel_rfl) (by kernel_rfl) rfl rfl rfl ?_
                  refine xp_skip (i := 23) rfl (by kernel_rfl) (by kernel_rfl) rfl rfl rfl ?_
                  refine xp_skip (i := 24) rfl (by kernel_rfl) (by kernel_rfl) rfl rfl rfl ?_
                  refine xp_skip (i := 25) rfl (by kernel_rfl) (by kernel_rfl) rfl rfl rfl ?_
                  refine xp_pure (i := 26) rfl (by kernel_rfl) (by kernel_rfl) rfl rfl rfl (pv_pick_f (v := .bool _) rfl rfl rfl) ?_
                  refine xp_pure (i := 27) rfl (by kernel_rfl) (by kernel_rfl) rfl rfl rfl (pv_pick_f (v := .bool _) rfl rfl rfl) ?_
                  refine xp_done (by kernel_rfl) ?_
                  refine xthen_normal ?_
                  refine xc_cond_f rfl ?_
                  refine xc_skip ?_
                  refine xblock_normal ?_
                  refine xthen_normal ?_
                  refine xc_region ?_
                  refine xl_pure rfl rfl rfl (pv_move (v := .int _ _) rfl rfl) ?_
                  refine xl_pure rfl rfl rfl (pv_add rfl rfl rfl (fit_i64 (by omega))) ?_
                  refine xl_pure rfl rfl rfl (pv_assign (v := .int _ _) rfl rfl) ?_
                  refine xl_nil ?_
                  refine xthen_normal ?_
                  exact ⟨k + 1, ⟨rfl, rfl, rfl, trivial⟩, ⟨by (try simp only); omega, hX11_1, hX⟩, by (try simp only); omega⟩
              · exact absurd (ofR_some hone) h16_8
            · skip
              refine xph_val rfl rfl rfl rfl (hv_alloc rfl rfl) (pk (by kernel_rfl) (pk (by kernel_rfl) pn)) ?_
              rintro v15_15 H15_15 ⟨b15_15, rfl, hN15_15⟩
              have gb15_15 := hX.fresh hN15_15
              have gb15_15_hX11_1 := hX11_1.fresh hN15_15
              have hX := hX.trans hN15_15.ext
              have hX11_1 := hX11_1.trans hN15_15.ext
              have m15_15 := hN15_15.blk
              refine ⟨(okc (lv_load (v := .int _ _) rfl rfl (by exact ld_num (j := 2) (i := k) (RowsAt.ext hwa hX11_1) hR11_1.1 (by omega) (by omega))) (okc (lv_load (v := .int _ _) rfl rfl (by exact ld_num (j := 1) (i := k) (RowsAt.ext hwa hX11_1) hR11_1.1 (by omega) (by omega))) okn)), ?_⟩
              refine xp_heavy (i := 11) (by kernel_rfl) ?_
              refine xph_val rfl rfl rfl rfl (hv_call (g := 7) rfl rfl (c7 (hg.ext hX11_1) ((gr x k).getD 1 0) ((gr x k).getD 2 0)) rfl) (pd (by kernel_rfl) (pd (by kernel_rfl) pn)) ?_
              rintro v15_11 H15_11 ⟨rfl, hE15_11⟩
              have m15_15 := m15_15.ext hE15_11
              have hX := hX.trans hE15_11
              have hX11_1 := hX11_1.trans hE15_11
              rw [hone]
              refine ⟨okn, ?_⟩
              refine xp_pure (i := 12) rfl (by kernel_rfl) (by kernel_rfl) rfl rfl rfl (pv_move (v := .tuple _) rfl rfl) ?_
              refine xp_pure (i := 13) rfl (by kernel_rfl) (by kernel_rfl) rfl rfl rfl (pv_extract (v := .agg _) rfl rfl rfl) ?_
              refine xp_pure (i := 14) rfl (by kernel_rfl) (by kernel_rfl) rfl rfl rfl (pv_extract (v := .bool _) rfl rfl rfl) ?_
              refine xp_heavy (i := 16) (by kernel_rfl) ?_
              refine xph_store rfl rfl rfl (hv_storeA (vs := ints (ofR x ((gr x k).getD 1 0) ((gr x k).getD 2 0))) rfl rfl rfl (m15_15) ((List.length_map _).trans (ofR_len hg.wide)) (by rfl) (ints_one _)) pn ?_
              rintro v15_16 H15_16 ⟨hU15_16, hZ15_16⟩
              have hX11_1 := hX11_1.upd hU15_16.but gb15_15_hX11_1
              have hX := hX.upd hU15_16.but gb15_15
              have m15_15 := hU15_16.blk
              refine ⟨okn, ?_⟩
              refine xp_pure (i := 17) rfl (by kernel_rfl) (by kernel_rfl) rfl rfl rfl (pv_assign (v := .bool _) rfl rfl) ?_
              refine xp_done (by kernel_rfl) ?_
              refine xthen_normal ?_
              refine xc_seq ?_
              refine xp_start rfl (by repeat (first | with_reducible exact np_fin | with_reducible refine np_then ?_ | with_reducible refine np_block ?_)) (by kernel_rfl) ?_
              refine xp_pure (i := 0) rfl (by kernel_rfl) (by kernel_rfl) rfl rfl rfl (pv_move (v := .bool _) rfl rfl) ?_
              refine xp_pure (i := 1) rfl (by kernel_rfl) (by kernel_rfl) rfl rfl rfl (pv_not rfl rfl) ?_
              refine xp_pure (i := 2) rfl (by kernel_rfl) (by kernel_rfl) rfl rfl rfl (pv_move (v := .bool _) rfl rfl) ?_
              refine xp_light (i := 3) rfl (by kernel_rfl) (by kernel_rfl) rfl rfl rfl (lv_load (v := .agg _) rfl rfl (ld_blk_a m15_15 rfl ((List.length_map _).trans (ofR_len hg.wide)))) ?_
              refine xp_pure (i := 4) rfl (by kernel_rfl) (by kernel_rfl) rfl rfl rfl (pv_move (v := .slice _ _ _) rfl rfl) ?_
              refine xp_pure (i := 5) rfl (by kernel_rfl) (by kernel_rfl) rfl rfl rfl (pv_move (v := .int _ _) rfl rfl) ?_
              refine xp_pure (i := 6) rfl (by kernel_rfl) (by kernel_rfl) rfl rfl rfl (pv_indexAddr_l rfl (sl_eq hwe) rfl (by omega)) ?_
              refine xp_light (i := 7) rfl (by kernel_rfl) (by kernel_rfl) rfl rfl rfl (lv_load (v := .agg _) rfl rfl (by exact ld_row' (i := k) (RowsAt.ext hwa hX11_1) hR11_1.1 (by omega))) ?_
              refine xp_ndec (i := 8) rfl (by kernel_rfl) (by kernel_rfl) rfl rfl rfl (pv_neq_st (ofR x ((gr x k).getD 1 0) ((gr x k).getD 2 0)) (gr x k) rfl rfl rfl (ofR_len hg.wide) (hg.wide.get (by omega))) (fun h16_8 => ?_) (fun h16_8 => ?_)
              · skip
                refine xp_pure (i := 9) rfl (by kernel_rfl) (by kernel_rfl) rfl rfl rfl (pv_pick_f (v := .bool _) rfl rfl rfl) ?_
                refine xp_pure (i := 10) rfl (by kernel_rfl) (by kernel_rfl) rfl rfl rfl (pv_move (v := .bool _) rfl rfl) ?_
                refine xp_pure (i := 11) rfl (by kernel_rfl) (by kernel_rfl) rfl rfl rfl (pv_move (v := .int _ _) rfl rfl) ?_
                refine xp_dec (i := 12) rfl (by kernel_rfl) (by kernel_rfl) rfl rfl rfl (pv_gtr rfl rfl rfl) (fun h16_12 => ?_) (fun h16_12 => ?_)
                · skip
                  refine xp_pure (i := 13) rfl (by kernel_rfl) (by kernel_rfl) rfl rfl rfl (pv_move (v := .bool _) rfl rfl) ?_
                  refine xp_pure (i := 14) rfl (by kernel_rfl) (by kernel_rfl) rfl rfl rfl (pv_move (v := .slice _ _ _) rfl rfl) ?_
                  refine xp_pure (i := 15) rfl (by kernel_rfl) (by kernel_rfl) rfl rfl rfl (pv_move (v := .int _ _) rfl rfl) ?_
                  refine xp_pure (i := 16) rfl (by kernel_rfl) (by kernel_rfl) rfl rfl rfl (pv_indexAddr_l rfl (sl_eq hwe) rfl (by omega)) ?_
                  refine xp_pure (i := 17) rfl (by kernel_rfl) (by kernel_rfl) rfl rfl rfl (pv_fieldAddr rfl rfl) ?_
                  refine xp_light (i := 18) rfl (by kernel_rfl) (by kernel_rfl) rfl rfl rfl (lv_load (v := .int _ _) rfl rfl (by exact ld_num (j := 0) (i := k) (RowsAt.ext hwa hX11_1) hR11_1.1 (by omega) (by omega))) ?_
                  refine xp_pure (i := 19) rfl (by kernel_rfl) (by kernel_rfl) rfl rfl rfl (pv_move (v := .slice _ _ _) rfl rfl) ?_
                  refine xp_pure (i := 20) rfl (by kernel_rfl) (by kernel_rfl) rfl rfl rfl (pv_move (v := .int _ _) rfl rfl) ?_
                  refine xp_pure (i := 21) rfl (by kernel_rfl) (by kernel_rfl) rfl rfl rfl (pv_sub rfl rfl rfl (fit_i64 (by omega))) ?_
                  refine xp_pure (i := 22) rfl (by kernel_rfl) (by kernel_rfl) rfl rfl rfl (pv_indexAddr_l rfl (sl_eq hwe) rfl (by omega)) ?_
                  refine xp_pure (i := 23) rfl (by kernel_rfl) (by kernel_rfl) rfl rfl rfl (pv_fieldAddr rfl rfl) ?_
                  refine xp_light (i := 24) rfl (by kernel_rfl) (by kernel_rfl) rfl rfl rfl (lv_load (v := .int _ _) rfl rfl (by rw [lastIx (by omega)]; exact ld_num (j := 0) (i := k - 1) (RowsAt.ext hwa hX11_1) hR11_1.1 (by omega) (by omega))) ?_
                  refine xp_dec (i := 25) rfl (by kernel_rfl) (by kernel_rfl) rfl rfl rfl (pv_lss rfl rfl rfl) (fun h16_25 => ?_) (fun h16_25 => ?_)
                  · exact absurd h16_25 (by have h1 := hupk (by omega); rw [show k - 1 + 1 = k by omega] at h1; omega)
                  · skip
                    refine xp_pure (i := 26) rfl (by kernel_rfl) (by kernel_rfl) rfl rfl rfl (pv_pick_t (v := .bool _) rfl rfl rfl) ?_
                    refine xp_pure (i := 27) rfl (by kernel_rfl) (by kernel_rfl) rfl rfl rfl (pv_pick_f (v := .bool _) rfl rfl rfl) ?_
                    refine xp_done (by kernel_rfl) ?_
                    refine xthen_normal ?_
                    refine xc_cond_f rfl ?_
                    refine xc_skip ?_
                    refine xblock_normal ?_
                    refine xthen_normal ?_
                    refine xc_region ?_
                    refine xl_pure rfl rfl rfl (pv_move (v := .int _ _) rfl rfl) ?_
                    refine xl_pure rfl rfl rfl (pv_add rfl rfl rfl (fit_i64 (by omega))) ?_
                    refine xl_pure rfl rfl rfl (pv_assign (v := .int _ _) rfl rfl) ?_
                    refine xl_nil ?_
                    refine xthen_normal ?_
                    exact ⟨k + 1, ⟨rfl, rfl, rfl, trivial⟩, ⟨by (try simp only); omega, hX11_1, hX⟩, by (try simp only); omega⟩
                · skip
                  refine xp_pure (i := 13) rfl (by kernel_rfl) (by kernel_rfl) rfl rfl rfl (pv_move (v := .bool _) rfl rfl) ?_
                  refine xp_skip (i := 14) rfl (by kernel_rfl) (by kernel_rfl) rfl rfl rfl ?_
                  refine xp_skip (i := 15) rfl (by kernel_rfl) (by kernel_rfl) rfl rfl rfl ?_
                  refine xp_skip (i := 16) rfl (by kernel_rfl) (by kernel_rfl) rfl rfl rfl ?_
                  refine xp_skip (i := 17) rfl (by kernel_rfl) (by kernel_rfl) rfl rfl rfl ?_
                  refine xp_skip (i := 18) rfl (by kernel_rfl) (by kernel_rfl) rfl rfl rfl ?_
                  refine xp_skip (i := 19) rfl (by kernel_rfl) (by kernel_rfl) rfl rfl rfl ?_
                  refine xp_skip (i := 20) rfl (by kernel_rfl) (by kernel_rfl) rfl rfl rfl ?_
                  refine xp_skip (i := 21) rfl (by kernel_rfl) (by kernel_rfl) rfl rfl rfl ?_
                  refine xp_skip (i := 22) rfl (by kernel_rfl) (by kernel_rfl) rfl rfl rfl ?_
                  refine xp_skip (i := 23) rfl (by kernel_rfl) (by kernel_rfl) rfl rfl rfl ?_
                  refine xp_skip (i := 24) rfl (by kernel_rfl) (by kernel_rfl) rfl rfl rfl ?_
                  refine xp_skip (i := 25) rfl (by kernel_rfl) (by kernel_rfl) rfl rfl rfl ?_
                  refine xp_pure (i := 26) rfl (by kernel_rfl) (by kernel_rfl) rfl rfl rfl (pv_pick_f (v := .bool _) rfl rfl rfl) ?_
                  refine xp_pure (i := 27) rfl (by kernel_rfl) (by kernel_rfl) rfl rfl rfl (pv_pick_f (v := .bool _) rfl rfl rfl) ?_
                  refine xp_done (by kernel_rfl) ?_
                  refine xthen_normal ?_
                  refine xc_cond_f rfl ?_
                  refine xc_skip ?_
                  refine xblock_normal ?_
                  refine xthen_normal ?_
                  refine xc_region ?_
                  refine xl_pure rfl rfl rfl (pv_move (v := .int _ _) rfl rfl) ?_
                  refine xl_pure rfl rfl rfl (pv_add rfl rfl rfl (fit_i64 (by omega))) ?_
                  refine xl_pure rfl rfl rfl (pv_assign (v := .int _ _) rfl rfl) ?_
                  refine xl_nil ?_
                  refine xthen_normal ?_
                  exact ⟨k + 1, ⟨rfl, rfl, rfl, trivial⟩, ⟨by (try simp only); omega, hX11_1, hX⟩, by (try simp only); omega⟩
              · exact absurd (ofR_some hone) h16_8
          · skip
            refine xl_nil ?_
            refine xthen_normal ?_
            refine xc_cond_f rfl ?_
            refine xc_exit ?_
            refine xthen_exit ?_
            refine xthen_exit ?_
            refine xblock_same ?_
            refine xthen_normal ?_
            refine xc_seq ?_
            have hHB := hX.size
            have hHB1 := hX11_1.size
            have hxl := hon.stood.len
            refine xc_region ?_
            refine xl_pure rfl rfl rfl (pv_move (v := .pointer _) rfl rfl) ?_
            refine xl_heavy rfl rfl rfl (hv_call (g := 10) rfl rfl (c10 (hg.ext hX11_1)) rfl) ?_
            rintro v18_1 H18_1 ⟨p18_1, va18_1, vc18_1, mv18_1, rfl, hgc, hE18_1⟩
            have hX := hX.trans hE18_1
            have hX11_1 := hX11_1.trans hE18_1
            refine xl_pure rfl rfl rfl (pv_assign (v := .pointer _) rfl rfl) ?_
            refine xl_nil ?_
            refine xthen_normal ?_
            refine xc_seq ?_
            refine xc_seq ?_
            refine xc_region ?_
            refine xl_pure rfl rfl rfl (pv_move (v := .pointer _) rfl rfl) ?_
            refine xl_pure rfl rfl rfl (pv_eql_pn rfl rfl rfl) ?_
            refine xl_nil ?_
            refine xthen_normal ?_
            refine xc_cond_f rfl ?_
            refine xc_skip ?_
            refine xthen_normal ?_
            refine xc_seq ?_
            refine xc_seq ?_
            refine xc_region ?_
            refine xl_pure rfl rfl rfl (pv_move (v := .slice _ _ _) rfl rfl) ?_
            refine xl_pure rfl rfl rfl (pv_len_l rfl rfl) ?_
            refine xl_pure rfl rfl rfl (pv_assign (v := .int _ _) rfl rfl) ?_
            refine xl_nil ?_
            refine xthen_normal ?_
            refine xc_block ?_
            refine xc_loop (τ := List (List Int) × Option Addr × Nat × Option Nat × Nat) (fun t => [(3, .pointer (some ⟨b3_1, 0, none⟩)), (8, .slice a11_1 (List.length x) c11_1), (12, .pointer (some ⟨p18_1, 0, none⟩)), (13, .int .i64 (t.2.2.2.2 : Nat))]) (fun t H' => (LogAt H' Hl13.size p18_1 t.2.1 t.2.2.1 t.2.2.2.1 t.1) ∧ (Stood t.1) ∧ (t.2.2.2.2 ≤ 129 ∧ (t.2.2.2.2 ≤ 128 → t.1.length = t.2.2.2.2) ∧ (t.2.2.2.2 = 129 → t.1.length = 128)) ∧ (Ext H11_1 H') ∧ (Ext H H')) (fun t H' => 130 - t.2.2.2.2) (x, va18_1, vc18_1, mv18_1, x.length) ?_ ?_ ?_
            · exact ⟨rfl, rfl, rfl, rfl, trivial⟩
            · skip
              exact ⟨hgc, hon.stood, ⟨by (try simp only); omega, fun _ => rfl, fun h => by (try simp only at h); omega⟩, hX11_1, hX⟩
            · intro σ
              clear hX hX11_1 hgc
              rintro ⟨y, ya, yc, ym, i2⟩ Hl22 ⟨hgc, hy, hi2, hX11_1, hX⟩
              replace hgc : LogAt Hl22 Hl13.size p18_1 ya yc ym y := hgc
              replace hy : Stood y := hy
              replace hi2 : i2 ≤ 129 ∧ (i2 ≤ 128 → y.length = i2) ∧ (i2 = 129 → y.length = 128) := hi2
              replace hX11_1 : Ext H11_1 Hl22 := hX11_1
              replace hX : Ext H Hl22 := hX
              show XC _ _ _ (upds σ [(3, .pointer (some ⟨b3_1, 0, none⟩)), (8, .slice a11_1 (List.length x) c11_1), (12, .pointer (some ⟨p18_1, 0, none⟩)), (13, .int .i64 (i2 : Nat))]) _
              refine xc_seq ?_
              refine xc_seq ?_
              refine xc_region ?_
              refine xl_pure rfl rfl rfl (pv_move (v := .int _ _) rfl rfl) ?_
              refine xl_dec rfl rfl rfl (pv_leq rfl rfl rfl) (fun h22_1 => ?_) (fun h22_1 => ?_)
              · skip
                refine xl_nil ?_
                refine xthen_normal ?_
                refine xc_cond_t rfl ?_
                refine xc_skip ?_
                refine xthen_normal ?_
                refine xc_seq ?_
                refine xc_block ?_
                refine xc_seq ?_
                have hlt : i2 ≤ 128 := by omega
                refine xc_region ?_
                refine xl_pure rfl rfl rfl (pv_move (v := .pointer _) rfl rfl) ?_
                refine xl_pure rfl rfl rfl (pv_move (v := .int _ _) rfl rfl) ?_
                refine xl_pure rfl rfl rfl (pv_add rfl rfl rfl (fit_i64 (by omega))) ?_
                refine xl_pure rfl rfl rfl (pv_build_s (cs := [.int _ _, .int _ _, .int _ _, .int _ _]) rfl rfl rfl) ?_
                refine xl_heavy rfl rfl rfl (hv_call (g := 8) rfl rfl (c8 hgc 1099511627776 1 (1099511626776 + i2) 4) rfl) ?_
                rintro v24_4 H24_4 ⟨e24_4, l24_4, va24_4, vc24_4, mv24_4, rfl, hd24_4, hg24_4, hK24_4, hW24_4⟩
                have hfl := fill hy hlt (hi2.2.1 hlt) hd24_4
                have hX := hX.keepB hK24_4 (fun j hj => (hgc.ft j hj).1) hHB
                have hX11_1 := hX11_1.keepB hK24_4 (fun j hj => (hgc.ft j hj).1) hHB1
                refine xl_pure rfl rfl rfl (pv_assign (v := .int _ _) rfl rfl) ?_
                refine xl_nil ?_
                refine xthen_normal ?_
                refine xc_seq ?_
                refine xc_seq ?_
                refine xc_region ?_
                refine xl_pure rfl rfl rfl (pv_move (v := .int _ _) rfl rfl) ?_
                refine xl_dec rfl rfl rfl (pv_eql rfl rfl rfl) (fun h25_1 => ?_) (fun h25_1 => ?_)
                · skip
                  refine xl_nil ?_
                  refine xthen_normal ?_
                  refine xc_cond_t rfl ?_
                  refine xc_seq ?_
                  refine xc_region ?_
                  refine xl_heavy rfl rfl rfl (hv_call (g := 6) rfl rfl (c6) rfl) ?_
                  rintro v26_0 H26_0 ⟨rfl, hE26_0⟩
                  have hX := hX.trans hE26_0
                  have hX11_1 := hX11_1.trans hE26_0
                  refine xl_pure rfl rfl rfl (pv_assign (v := .bool _) rfl rfl) ?_
                  refine xl_nil ?_
                  refine xthen_normal ?_
                  refine xc_ret ?_
                  refine xthen_ret ?_
                  refine xblock_ret ?_
                  refine xthen_ret ?_
                  refine xthen_ret ?_
                  refine xblock_ret ?_
                  refine xthen_ret ?_
                  refine fin_ret (res1 (v := .bool _) rfl rfl) ?_
                  exact ⟨rfl, hX⟩
                · skip
                  refine xl_nil ?_
                  refine xthen_normal ?_
                  refine xc_cond_f rfl ?_
                  refine xc_skip ?_
                  refine xthen_normal ?_
                  refine xc_seq ?_
                  refine xc_region ?_
                  refine xl_pure rfl rfl rfl (pv_move (v := .int _ _) rfl rfl) ?_
                  refine xl_dec rfl rfl rfl (pv_eql rfl rfl rfl) (fun h27_1 => ?_) (fun h27_1 => ?_)
                  · skip
                    refine xl_pure rfl rfl rfl (pv_move (v := .int _ _) rfl rfl) ?_
                    refine xl_dec rfl rfl rfl (pv_lss rfl rfl rfl) (fun h27_3 => ?_) (fun h27_3 => ?_)
                    · skip
                      refine xl_pure rfl rfl rfl (pv_neq_b rfl rfl rfl) ?_
                      refine xl_pure rfl rfl rfl (pv_move (v := .bool _) rfl rfl) ?_
                      refine xl_pure rfl rfl rfl (pv_move (v := .int _ _) rfl rfl) ?_
                      refine xl_ndec rfl rfl rfl (pv_neq rfl rfl rfl) (fun h27_7 => ?_) (fun h27_7 => ?_)
                      · skip
                        refine xl_pure rfl rfl rfl (pv_move (v := .bool _) rfl rfl) ?_
                        refine xl_skip rfl rfl rfl ?_
                        refine xl_skip rfl rfl rfl ?_
                        refine xl_pure rfl rfl rfl (pv_pick_f (v := .bool _) rfl rfl rfl) ?_
                        refine xl_pure rfl rfl rfl (pv_pick_f (v := .bool _) rfl rfl rfl) ?_
                        refine xl_nil ?_
                        refine xthen_normal ?_
                        refine xc_cond_f rfl ?_
                        refine xc_skip ?_
                        refine xblock_normal ?_
                        refine xthen_normal ?_
                        refine xc_region ?_
                        refine xl_pure rfl rfl rfl (pv_move (v := .int _ _) rfl rfl) ?_
                        refine xl_pure rfl rfl rfl (pv_add rfl rfl rfl (fit_i64 (by omega))) ?_
                        refine xl_pure rfl rfl rfl (pv_assign (v := .int _ _) rfl rfl) ?_
                        refine xl_nil ?_
                        refine xthen_normal ?_
                        exact ⟨(l24_4, _, _, _, i2 + 1), ⟨rfl, rfl, rfl, rfl, trivial⟩, ⟨hg24_4, by rcases hfl with h | ⟨_, _, h, _⟩ | ⟨_, _, h⟩; exact absurd h (by assumption); exact h; rw [h]; exact hy, by rcases hfl with h | ⟨_, _, _, h⟩ | ⟨_, h2, h⟩; exact absurd h (by assumption); exact ⟨by (try simp only); omega, fun hq => by (try simp only at hq ⊢); omega, fun hq => by (try simp only at hq ⊢); omega⟩; exact ⟨by (try simp only); omega, fun hq => by (try simp only at hq ⊢); omega, fun hq => by rw [h]; (try simp only at hq ⊢); omega⟩, hX11_1, hX⟩, by (try simp only); omega⟩
                      · skip
                        refine xl_pure rfl rfl rfl (pv_move (v := .bool _) rfl rfl) ?_
                        refine xl_pure rfl rfl rfl (pv_move (v := .int _ _) rfl rfl) ?_
                        refine xl_ndec rfl rfl rfl (pv_neq rfl rfl rfl) (fun h27_10 => ?_) (fun h27_10 => ?_)
                        · skip
                          refine xl_pure rfl rfl rfl (pv_pick_t (v := .bool _) rfl rfl rfl) ?_
                          refine xl_pure rfl rfl rfl (pv_pick_f (v := .bool _) rfl rfl rfl) ?_
                          refine xl_nil ?_
                          refine xthen_normal ?_
                          refine xc_cond_f rfl ?_
                          refine xc_skip ?_
                          refine xblock_normal ?_
                          refine xthen_normal ?_
                          refine xc_region ?_
                          refine xl_pure rfl rfl rfl (pv_move (v := .int _ _) rfl rfl) ?_
                          refine xl_pure rfl rfl rfl (pv_add rfl rfl rfl (fit_i64 (by omega))) ?_
                          refine xl_pure rfl rfl rfl (pv_assign (v := .int _ _) rfl rfl) ?_
                          refine xl_nil ?_
                          refine xthen_normal ?_
                          exact ⟨(l24_4, _, _, _, i2 + 1), ⟨rfl, rfl, rfl, rfl, trivial⟩, ⟨hg24_4, by rcases hfl with h | ⟨_, _, h, _⟩ | ⟨_, _, h⟩; exact absurd h (by assumption); exact h; rw [h]; exact hy, by rcases hfl with h | ⟨_, _, _, h⟩ | ⟨_, h2, h⟩; exact absurd h (by assumption); exact ⟨by (try simp only); omega, fun hq => by (try simp only at hq ⊢); omega, fun hq => by (try simp only at hq ⊢); omega⟩; exact ⟨by (try simp only); omega, fun hq => by (try simp only at hq ⊢); omega, fun hq => by rw [h]; (try simp only at hq ⊢); omega⟩, hX11_1, hX⟩, by (try simp only); omega⟩
                        · skip
                          refine xl_pure rfl rfl rfl (pv_pick_t (v := .bool _) rfl rfl rfl) ?_
                          refine xl_pure rfl rfl rfl (pv_pick_f (v := .bool _) rfl rfl rfl) ?_
                          refine xl_nil ?_
                          refine xthen_normal ?_
                          refine xc_cond_t rfl ?_
                          refine xc_seq ?_
                          refine xc_region ?_
                          refine xl_pure rfl rfl rfl (pv_assign (v := .bool _) rfl rfl) ?_
                          refine xl_nil ?_
                          refine xthen_normal ?_
                          refine xc_ret ?_
                          refine xblock_ret ?_
                          refine xthen_ret ?_
                          refine xthen_ret ?_
                          refine xblock_ret ?_
                          refine xthen_ret ?_
                          refine fin_ret (res1 (v := .bool _) rfl rfl) ?_
                          exfalso
                          rcases hfl with h | ⟨h1, h2, _⟩ | ⟨h1, h2, _⟩ <;> omega
                    · skip
                      refine xl_pure rfl rfl rfl (pv_neq_b rfl rfl rfl) ?_
                      refine xl_pure rfl rfl rfl (pv_move (v := .bool _) rfl rfl) ?_
                      refine xl_skip rfl rfl rfl ?_
                      refine xl_skip rfl rfl rfl ?_
                      refine xl_skip rfl rfl rfl ?_
                      refine xl_skip rfl rfl rfl ?_
                      refine xl_skip rfl rfl rfl ?_
                      refine xl_skip rfl rfl rfl ?_
                      refine xl_pure rfl rfl rfl (pv_pick_t (v := .bool _) rfl rfl rfl) ?_
                      refine xl_nil ?_
                      refine xthen_normal ?_
                      refine xc_cond_t rfl ?_
                      refine xc_seq ?_
                      refine xc_region ?_
                      refine xl_pure rfl rfl rfl (pv_assign (v := .bool _) rfl rfl) ?_
                      refine xl_nil ?_
                      refine xthen_normal ?_
                      refine xc_ret ?_
                      refine xblock_ret ?_
                      refine xthen_ret ?_
                      refine xthen_ret ?_
                      refine xblock_ret ?_
                      refine xthen_ret ?_
                      refine fin_ret (res1 (v := .bool _) rfl rfl) ?_
                      exfalso
                      rcases hfl with h | ⟨h1, h2, _⟩ | ⟨h1, h2, _⟩ <;> omega
                  · skip
                    refine xl_pure rfl rfl rfl (pv_move (v := .int _ _) rfl rfl) ?_
                    refine xl_dec rfl rfl rfl (pv_lss rfl rfl rfl) (fun h27_3 => ?_) (fun h27_3 => ?_)
                    · skip
                      refine xl_pure rfl rfl rfl (pv_neq_b rfl rfl rfl) ?_
                      refine xl_pure rfl rfl rfl (pv_move (v := .bool _) rfl rfl) ?_
                      refine xl_skip rfl rfl rfl ?_
                      refine xl_skip rfl rfl rfl ?_
                      refine xl_skip rfl rfl rfl ?_
                      refine xl_skip rfl rfl rfl ?_
                      refine xl_skip rfl rfl rfl ?_
                      refine xl_skip rfl rfl rfl ?_
                      refine xl_pure rfl rfl rfl (pv_pick_t (v := .bool _) rfl rfl rfl) ?_
                      refine xl_nil ?_
                      refine xthen_normal ?_
                      refine xc_cond_t rfl ?_
                      refine xc_seq ?_
                      refine xc_region ?_
                      refine xl_pure rfl rfl rfl (pv_assign (v := .bool _) rfl rfl) ?_
                      refine xl_nil ?_
                      refine xthen_normal ?_
                      refine xc_ret ?_
                      refine xblock_ret ?_
                      refine xthen_ret ?_
                      refine xthen_ret ?_
                      refine xblock_ret ?_
                      refine xthen_ret ?_
                      refine fin_ret (res1 (v := .bool _) rfl rfl) ?_
                      exfalso
                      rcases hfl with h | ⟨h1, h2, _⟩ | ⟨h1, h2, _⟩ <;> omega
                    · skip
                      refine xl_pure rfl rfl rfl (pv_neq_b rfl rfl rfl) ?_
                      refine xl_pure rfl rfl rfl (pv_move (v := .bool _) rfl rfl) ?_
                      refine xl_pure rfl rfl rfl (pv_move (v := .int _ _) rfl rfl) ?_
                      refine xl_ndec rfl rfl rfl (pv_neq rfl rfl rfl) (fun h27_7 => ?_) (fun h27_7 => ?_)
                      · skip
                        refine xl_pure rfl rfl rfl (pv_move (v := .bool _) rfl rfl) ?_
                        refine xl_skip rfl rfl rfl ?_
                        refine xl_skip rfl rfl rfl ?_
                        refine xl_pure rfl rfl rfl (pv_pick_f (v := .bool _) rfl rfl rfl) ?_
                        refine xl_pure rfl rfl rfl (pv_pick_f (v := .bool _) rfl rfl rfl) ?_
                        refine xl_nil ?_
                        refine xthen_normal ?_
                        refine xc_cond_f rfl ?_
                        refine xc_skip ?_
                        refine xblock_normal ?_
                        refine xthen_normal ?_
                        refine xc_region ?_
                        refine xl_pure rfl rfl rfl (pv_move (v := .int _ _) rfl rfl) ?_
                        refine xl_pure rfl rfl rfl (pv_add rfl rfl rfl (fit_i64 (by omega))) ?_
                        refine xl_pure rfl rfl rfl (pv_assign (v := .int _ _) rfl rfl) ?_
                        refine xl_nil ?_
                        refine xthen_normal ?_
                        exact ⟨(l24_4, _, _, _, i2 + 1), ⟨rfl, rfl, rfl, rfl, trivial⟩, ⟨hg24_4, by rcases hfl with h | ⟨_, _, h, _⟩ | ⟨_, _, h⟩; exact absurd h (by assumption); exact h; rw [h]; exact hy, by rcases hfl with h | ⟨_, _, _, h⟩ | ⟨_, h2, h⟩; exact absurd h (by assumption); exact ⟨by (try simp only); omega, fun hq => by (try simp only at hq ⊢); omega, fun hq => by (try simp only at hq ⊢); omega⟩; exact ⟨by (try simp only); omega, fun hq => by (try simp only at hq ⊢); omega, fun hq => by rw [h]; (try simp only at hq ⊢); omega⟩, hX11_1, hX⟩, by (try simp only); omega⟩
                      · skip
                        refine xl_pure rfl rfl rfl (pv_move (v := .bool _) rfl rfl) ?_
                        refine xl_pure rfl rfl rfl (pv_move (v := .int _ _) rfl rfl) ?_
                        refine xl_ndec rfl rfl rfl (pv_neq rfl rfl rfl) (fun h27_10 => ?_) (fun h27_10 => ?_)
                        · skip
                          refine xl_pure rfl rfl rfl (pv_pick_t (v := .bool _) rfl rfl rfl) ?_
                          refine xl_pure rfl rfl rfl (pv_pick_f (v := .bool _) rfl rfl rfl) ?_
                          refine xl_nil ?_
                          refine xthen_normal ?_
                          refine xc_cond_f rfl ?_
                          refine xc_skip ?_
                          refine xblock_normal ?_
                          refine xthen_normal ?_
                          refine xc_region ?_
                          refine xl_pure rfl rfl rfl (pv_move (v := .int _ _) rfl rfl) ?_
                          refine xl_pure rfl rfl rfl (pv_add rfl rfl rfl (fit_i64 (by omega))) ?_
                          refine xl_pure rfl rfl rfl (pv_assign (v := .int _ _) rfl rfl) ?_
                          refine xl_nil ?_
                          refine xthen_normal ?_
                          exact ⟨(l24_4, _, _, _, i2 + 1), ⟨rfl, rfl, rfl, rfl, trivial⟩, ⟨hg24_4, by rcases hfl with h | ⟨_, _, h, _⟩ | ⟨_, _, h⟩; exact absurd h (by assumption); exact h; rw [h]; exact hy, by rcases hfl with h | ⟨_, _, _, h⟩ | ⟨_, h2, h⟩; exact absurd h (by assumption); exact ⟨by (try simp only); omega, fun hq => by (try simp only at hq ⊢); omega, fun hq => by (try simp only at hq ⊢); omega⟩; exact ⟨by (try simp only); omega, fun hq => by (try simp only at hq ⊢); omega, fun hq => by rw [h]; (try simp only at hq ⊢); omega⟩, hX11_1, hX⟩, by (try simp only); omega⟩
                        · skip
                          refine xl_pure rfl rfl rfl (pv_pick_t (v := .bool _) rfl rfl rfl) ?_
                          refine xl_pure rfl rfl rfl (pv_pick_f (v := .bool _) rfl rfl rfl) ?_
                          refine xl_nil ?_
                          refine xthen_normal ?_
                          refine xc_cond_t rfl ?_
                          refine xc_seq ?_
                          refine xc_region ?_
                          refine xl_pure rfl rfl rfl (pv_assign (v := .bool _) rfl rfl) ?_
                          refine xl_nil ?_
                          refine xthen_normal ?_
                          refine xc_ret ?_
                          refine xblock_ret ?_
                          refine xthen_ret ?_
                          refine xthen_ret ?_
                          refine xblock_ret ?_
                          refine xthen_ret ?_
                          refine fin_ret (res1 (v := .bool _) rfl rfl) ?_
                          exfalso
                          rcases hfl with h | ⟨h1, h2, _⟩ | ⟨h1, h2, _⟩ <;> omega
              · skip
                refine xl_nil ?_
                refine xthen_normal ?_
                refine xc_cond_f rfl ?_
                refine xc_exit ?_
                refine xthen_exit ?_
                refine xthen_exit ?_
                refine xblock_same ?_
                refine xthen_normal ?_
                refine xc_seq ?_
                refine xc_region ?_
                refine xl_pure rfl rfl rfl (pv_assign (v := .pointer _) rfl rfl) ?_
                refine xl_nil ?_
                refine xthen_normal ?_
                refine xc_seq ?_
                refine xc_region ?_
                refine xl_pure rfl rfl rfl (pv_move (v := .pointer _) rfl rfl) ?_
                refine xl_heavy rfl rfl rfl (hv_call (g := 9) rfl rfl (c9 (hg.ext hX11_1)) rfl) ?_
                rintro v30_1 H30_1 ⟨a30_1, c30_1, rfl, hR30_1, hA30_1, hO30_1, hE30_1⟩
                have hX := hX.trans hE30_1
                have hX11_1 := hX11_1.trans hE30_1
                have hX30_1 := Ext.refl H30_1
                refine xl_pure rfl rfl rfl (pv_move (v := .slice _ _ _) rfl rfl) ?_
                refine xl_heavy rfl rfl rfl (hv_call (g := 11) rfl rfl (c11 x x _ _ _ _ hR30_1 (hR11_1.ext hX11_1) (by have := hon.stood.len; omega)) rfl) ?_
                rintro v30_3 H30_3 ⟨r30_3, rfl, hb30_3, rfl⟩
                obtain rfl : r30_3 = true := hb30_3.2 rfl
                refine xl_pure rfl rfl rfl (pv_move (v := .bool _) rfl rfl) ?_
                refine xl_pure rfl rfl rfl (pv_move (v := .pointer _) rfl rfl) ?_
                refine xl_heavy rfl rfl rfl (hv_call (g := 9) rfl rfl (c9 (hgc.ext hE30_1)) rfl) ?_
                rintro v30_6 H30_6 ⟨a30_6, c30_6, rfl, hR30_6, hA30_6, hO30_6, hE30_6⟩
                have hX := hX.trans hE30_6
                have hX11_1 := hX11_1.trans hE30_6
                have hX30_1 := hX30_1.trans hE30_6
                refine xl_pure rfl rfl rfl (pv_len_l rfl rfl) ?_
                refine xl_dec rfl rfl rfl (pv_eql rfl rfl rfl) (fun h30_8 => ?_) (fun h30_8 => ?_)
                · skip
                  refine xl_pure rfl rfl rfl (pv_pick_t (v := .bool _) rfl rfl rfl) ?_
                  refine xl_pure rfl rfl rfl (pv_move (v := .bool _) rfl rfl) ?_
                  refine xl_pure rfl rfl rfl (pv_move (v := .pointer _) rfl rfl) ?_
                  refine xl_pure rfl rfl rfl (pv_build_s (cs := [.int _ _, .int _ _, .int _ _, .int _ _]) rfl rfl rfl) ?_
                  refine xl_heavy rfl rfl rfl (hv_call (g := 8) rfl rfl (c80 0 0 0 0) rfl) ?_
                  rintro v30_13 H30_13 ⟨rfl, hE30_13⟩
                  have hX := hX.trans hE30_13
                  have hX11_1 := hX11_1.trans hE30_13
                  have hX30_1 := hX30_1.trans hE30_13
                  refine xl_dec rfl rfl rfl (pv_eql rfl rfl rfl) (fun h30_14 => ?_) (fun h30_14 => ?_)
                  · skip
                    refine xl_pure rfl rfl rfl (pv_pick_t (v := .bool _) rfl rfl rfl) ?_
                    refine xl_pure rfl rfl rfl (pv_move (v := .bool _) rfl rfl) ?_
                    refine xl_pure rfl rfl rfl (pv_move (v := .pointer _) rfl rfl) ?_
                    refine xl_heavy rfl rfl rfl (hv_call (g := 9) rfl rfl (c9n) rfl) ?_
                    rintro v30_18 H30_18 ⟨rfl, hE30_18⟩
                    have hX := hX.trans hE30_18
                    have hX11_1 := hX11_1.trans hE30_18
                    have hX30_1 := hX30_1.trans hE30_18
                    refine xl_pure rfl rfl rfl (pv_len_l rfl rfl) ?_
                    refine xl_dec rfl rfl rfl (pv_eql rfl rfl rfl) (fun h30_20 => ?_) (fun h30_20 => ?_)
                    · skip
                      refine xl_pure rfl rfl rfl (pv_pick_t (v := .bool _) rfl rfl rfl) ?_
                      refine xl_pure rfl rfl rfl (pv_move (v := .bool _) rfl rfl) ?_
                      refine xl_heavy rfl rfl rfl (hv_call (g := 6) rfl rfl (c6) rfl) ?_
                      rintro v30_23 H30_23 ⟨rfl, hE30_23⟩
                      have hX := hX.trans hE30_23
                      have hX11_1 := hX11_1.trans hE30_23
                      have hX30_1 := hX30_1.trans hE30_23
                      refine xl_pure rfl rfl rfl (pv_pick_t (v := .bool _) rfl rfl rfl) ?_
                      refine xl_pure rfl rfl rfl (pv_assign (v := .bool _) rfl rfl) ?_
                      refine xl_nil ?_
                      refine xthen_normal ?_
                      refine xc_ret ?_
                      refine fin_ret (res1 (v := .bool _) rfl rfl) ?_
                      exact ⟨rfl, hX⟩
                    · exact absurd rfl h30_20
                  · exact absurd (by decide) h30_14
                · exact absurd (by have h := hi2.2.2 (by omega); omega) h30_8
end Go.XG
