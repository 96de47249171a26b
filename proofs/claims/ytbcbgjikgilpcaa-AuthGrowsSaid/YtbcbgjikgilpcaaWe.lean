/-
  Walks of the seat's functions over the logic XG: each function, what it computes. Printed by a program out of wip/walks.py.
-/
import Derived.Test.YtbcbgjikgilpcaaI
import Derived.Test.YtbcbgjikgilpcaaM
import Derived.Test.YtbcbgjikgilpcaaGc
import Derived.Test.YtbcbgjikgilpcaaWa
import Derived.Test.YtbcbgjikgilpcaaWb
import Derived.Test.YtbcbgjikgilpcaaWc
import Derived.Test.YtbcbgjikgilpcaaWd
namespace Go.XG
open Go.Proofs
set_option maxRecDepth 4000
set_option maxHeartbeats 4000000
theorem gLoad {O : Outer} {H : Heap} {al : Option Addr} {cl B0 : Nat} {D : List (Int × List (List Int))} (hD : DK H B0 al D) (hml : ∀ k, k < D.length → (gD D k).2.length < 100000) (hDl : D.length < 1000000) :
    FnC Try.prog 10 #[.slice al D.length cl] O H (fun v H' => ∃ e, LdG D e ∧ (e = 0 ∧ (∃ b, v = .tuple #[.pointer (some ⟨b, 0, none⟩), .int .i64 0] ∧ Fresh H b ∧ GAt H' b H.size (mX D)) ∨ e ≠ 0 ∧ v = .tuple #[.pointer none, .int .i64 e]) ∧ Ext H H') := by
  refine fn_enter (A := [.slice al D.length cl]) Try.func10 rfl rfl ?_
  have hX := Ext.refl H
  refine xc_seq ?_
  refine xc_region ?_
  refine xl_pure rfl rfl rfl (pv_assign (v := .pointer _) rfl rfl) ?_
  refine xl_pure rfl rfl rfl (pv_assign (v := .int _ _) rfl rfl) ?_
  refine xl_nil ?_
  refine xthen_normal ?_
  refine xc_seq ?_
  refine xc_seq ?_
  refine xc_region ?_
  refine xl_pure rfl rfl rfl (pv_move (v := .slice _ _ _) rfl rfl) ?_
  refine xl_pure rfl rfl rfl (pv_len_l rfl rfl) ?_
  refine xl_dec rfl rfl rfl (pv_gtr rfl rfl rfl) (fun h1_2 => ?_) (fun h1_2 => ?_)
  · skip
    refine xl_nil ?_
    refine xthen_normal ?_
    refine xc_cond_t rfl ?_
    refine xc_seq ?_
    refine xc_region ?_
    refine xl_pure rfl rfl rfl (pv_assign (v := .pointer _) rfl rfl) ?_
    refine xl_pure rfl rfl rfl (pv_assign (v := .int _ _) rfl rfl) ?_
    refine xl_nil ?_
    refine xthen_normal ?_
    refine xc_ret ?_
    refine xthen_ret ?_
    refine fin_ret (res2 (v := .pointer _) (x := .int _ _) rfl rfl rfl) ?_
    exact ⟨1, .inr ⟨rfl, fun h => by have := h.1; omega⟩, .inr ⟨by decide, rfl⟩, hX⟩
  · skip
    refine xl_nil ?_
    refine xthen_normal ?_
    refine xc_cond_f rfl ?_
    refine xc_skip ?_
    refine xthen_normal ?_
    refine xc_seq ?_
    refine xc_region ?_
    refine xl_pure rfl rfl rfl (pv_build_s (cs := [.slice _ _ _]) rfl rfl rfl) ?_
    refine xl_heavy rfl rfl rfl (hv_box rfl rfl) ?_
    rintro v3_1 H3_1 ⟨b3_1, rfl, hN3_1⟩
    have gb3_1 := hX.fresh hN3_1
    have hX := hX.trans hN3_1.ext
    have m3_1 := hN3_1.blk
    refine xl_pure rfl rfl rfl (pv_assign (v := .pointer _) rfl rfl) ?_
    refine xl_nil ?_
    refine xthen_normal ?_
    refine xc_seq ?_
    refine xc_seq ?_
    refine xc_region ?_
    refine xl_pure rfl rfl rfl (pv_move (v := .slice _ _ _) rfl rfl) ?_
    refine xl_pure rfl rfl rfl (pv_len_l rfl rfl) ?_
    refine xl_pure rfl rfl rfl (pv_move (v := .int _ _) rfl rfl) ?_
    refine xl_nil ?_
    refine xthen_normal ?_
    refine xc_block ?_
    refine xc_loop (τ := Nat × Option Addr × Nat × List Value) (fun t => [(4, .pointer (some ⟨b3_1, 0, none⟩)), (15, .slice al D.length cl), (16, .int .i64 (D.length : Nat)), (17, .int .i64 (t.1 : Nat))]) (fun t H' => (t.1 ≤ D.length) ∧ (∀ j, j < t.1 → OkG D j) ∧ (Blk H' b3_1 [.slice t.2.1 t.1 t.2.2.1] 47) ∧ (Own H' H.size 52 1 (.slice t.2.1 t.1 t.2.2.1) t.1 t.2.2.2) ∧ (Mems H' t.2.2.2 ((mX D).take t.1)) ∧ (Ext H H')) (fun t H' => D.length - t.1) (0, none, 0, []) ?_ ?_ ?_
    · exact ⟨rfl, rfl, rfl, rfl, trivial⟩
    · skip
      exact ⟨Nat.zero_le _, fun j h => absurd h (by omega), m3_1, Own.nil _ _ _ _, Mems.nil, hX⟩
    · intro σ
      clear hX m3_1
      rintro ⟨k, a1, c1, hs1⟩ Hl5 ⟨hk, hall, m3_1, hO, hM, hX⟩
      replace hk : k ≤ D.length := hk
      replace hall : ∀ j, j < k → OkG D j := hall
      replace m3_1 : Blk Hl5 b3_1 [.slice a1 k c1] 47 := m3_1
      replace hO : Own Hl5 H.size 52 1 (.slice a1 k c1) k hs1 := hO
      replace hM : Mems Hl5 hs1 ((mX D).take k) := hM
      replace hX : Ext H Hl5 := hX
      obtain ⟨dg, do_, hde⟩ := (hD.ext hX).at'
      show XC _ _ _ (upds σ [(4, .pointer (some ⟨b3_1, 0, none⟩)), (15, .slice al D.length cl), (16, .int .i64 (D.length : Nat)), (17, .int .i64 (k : Nat))]) _
      refine xc_seq ?_
      refine xc_region ?_
      refine xl_dec rfl rfl rfl (pv_lss rfl rfl rfl) (fun h5_0 => ?_) (fun h5_0 => ?_)
      · skip
        refine xl_nil ?_
        refine xthen_normal ?_
        refine xc_seq ?_
        refine xc_cond_t rfl ?_
        refine xc_skip ?_
        refine xthen_normal ?_
        refine xc_seq ?_
        refine xc_block ?_
        refine xc_seq ?_
        obtain ⟨aj1, cj1, hld, hjr, hl1, hl2⟩ := ld_d (hde (by omega)).2 (show k < D.length by omega)
        have hmlk := hml k (by omega)
        obtain ⟨dg0, do0, hde0⟩ := hD.at'
        obtain ⟨aj, cj, -, hjr0, -, hl20⟩ := ld_d (hde0 (by omega)).2 (show k < D.length by omega)
        obtain ⟨rfl, rfl⟩ : aj = aj1 ∧ cj = cj1 := by have e1 := (hde (by omega)).1.symm.trans (hde0 (by omega)).1; cases e1; have e2 := (cellAt_ext hl20 hX).symm.trans hl2; cases e2; exact ⟨rfl, rfl⟩
        refine xc_region ?_
        refine xl_pure rfl rfl rfl (pv_move (v := .int _ _) rfl rfl) ?_
        refine xl_pure rfl rfl rfl (pv_indexAddr_l rfl (sl_eq (hde (by omega)).1) rfl (by omega)) ?_
        refine xl_light rfl rfl rfl (lv_load (v := .agg _) rfl rfl (by exact hld)) ?_
        refine xl_heavy rfl rfl rfl (hv_alloc rfl rfl) ?_
        rintro v6_3 H6_3 ⟨b6_3, rfl, hN6_3⟩
        have gb6_3 := hX.fresh hN6_3
        have nm3_1_6_3 := m3_1.apart hN6_3
        have m3_1 := m3_1.ext hN6_3.ext
        have hO := hO.ext hN6_3.ext
        have hM := hM.ext hN6_3.ext
        have hX := hX.trans hN6_3.ext
        have m6_3 := hN6_3.blk
        refine xl_pure rfl rfl rfl (pv_assign (v := .int _ _) rfl rfl) ?_
        refine xl_store rfl rfl (hv_storeA (vs := [.int .i64 (gD D k).1, .slice aj (gD D k).2.length cj]) rfl rfl rfl (m6_3) rfl (by rfl) rfl) ?_
        rintro v6_5 H6_5 ⟨hU6_5, hZ6_5⟩
        have hX6_5 := Ext.refl H6_5
        have m3_1 := m3_1.off hU6_5.but ⟨m3_1.ne m6_3 rfl⟩
        have hO := hO.offU m6_3 hU6_5.but (.inl rfl)
        have hMe := hM.offT m6_3 hU6_5.but rfl
        have hX := hX.upd hU6_5.but gb6_3
        have m6_3 := hU6_5.blk
        refine xl_nil ?_
        refine xthen_normal ?_
        refine xc_seq ?_
        refine xc_region ?_
        refine xl_pure rfl rfl rfl (pv_assign (v := .int _ _) rfl rfl) ?_
        refine xl_nil ?_
        refine xthen_normal ?_
        refine xc_seq ?_
        refine xc_seq ?_
        refine xc_region ?_
        refine xl_pure rfl rfl rfl (pv_fieldAddr rfl rfl) ?_
        refine xl_light rfl rfl rfl (lv_load (v := .slice _ _ _) rfl rfl (ld_blk m6_3 rfl)) ?_
        refine xl_pure rfl rfl rfl (pv_len_l rfl rfl) ?_
        refine xl_pure rfl rfl rfl (pv_move (v := .int _ _) rfl rfl) ?_
        refine xl_nil ?_
        refine xthen_normal ?_
        refine xc_block ?_
        refine xc_loop (τ := Nat) (fun t => [(4, .pointer (some ⟨b3_1, 0, none⟩)), (5, .int .i64 (k : Nat)), (6, .pointer (some ⟨b6_3, 0, none⟩)), (7, .int .i64 (lastM (gD D k).2 t)), (15, .slice al D.length cl), (16, .int .i64 (D.length : Nat)), (17, .int .i64 (k : Nat)), (23, .slice aj (gD D k).2.length cj), (24, .int .i64 ((gD D k).2.length : Nat)), (25, .int .i64 (t : Nat))]) (fun t H' => (t ≤ (gD D k).2.length) ∧ (MP (gD D k).2 t) ∧ (Blk H' b6_3 [.int .i64 (gD D k).1, .slice aj (gD D k).2.length cj] 54) ∧ (Blk H' b3_1 [.slice a1 k c1] 47) ∧ (Own H' H.size 52 1 (.slice a1 k c1) k hs1) ∧ (Ext H6_5 H') ∧ (Ext H H')) (fun t H' => (gD D k).2.length - t) 0 ?_ ?_ ?_
        · exact ⟨rfl, rfl, rfl, rfl, rfl, rfl, rfl, rfl, rfl, rfl, trivial⟩
        · skip
          exact ⟨Nat.zero_le _, fun i h => absurd h (by omega), m6_3, m3_1, hO, hX6_5, hX⟩
        · intro σ
          clear hX m3_1 hO m6_3 hX6_5
          rintro j Hl9 ⟨hj, hmp, m6_3, m3_1, hO, hX6_5, hX⟩
          replace hj : j ≤ (gD D k).2.length := hj
          replace hmp : MP (gD D k).2 j := hmp
          replace m6_3 : Blk Hl9 b6_3 [.int .i64 (gD D k).1, .slice aj (gD D k).2.length cj] 54 := m6_3
          replace m3_1 : Blk Hl9 b3_1 [.slice a1 k c1] 47 := m3_1
          replace hO : Own Hl9 H.size 52 1 (.slice a1 k c1) k hs1 := hO
          replace hX6_5 : Ext H6_5 Hl9 := hX6_5
          replace hX : Ext H Hl9 := hX
          obtain ⟨bj, oj, hje⟩ := (hjr0.rows.ext hX).at'
          show XC _ _ _ (upds σ [(4, .pointer (some ⟨b3_1, 0, none⟩)), (5, .int .i64 (k : Nat)), (6, .pointer (some ⟨b6_3, 0, none⟩)), (7, .int .i64 (lastM (gD D k).2 j)), (15, .slice al D.length cl), (16, .int .i64 (D.length : Nat)), (17, .int .i64 (k : Nat)), (23, .slice aj (gD D k).2.length cj), (24, .int .i64 ((gD D k).2.length : Nat)), (25, .int .i64 (j : Nat))]) _
          refine xc_seq ?_
          refine xc_region ?_
          refine xl_dec rfl rfl rfl (pv_lss rfl rfl rfl) (fun h9_0 => ?_) (fun h9_0 => ?_)
          · skip
            refine xl_nil ?_
            refine xthen_normal ?_
            refine xc_seq ?_
            refine xc_cond_t rfl ?_
            refine xc_skip ?_
            refine xthen_normal ?_
            refine xc_seq ?_
            refine xc_block ?_
            refine xc_seq ?_
            have hr2 := hjr0.1.get (show j < (gD D k).2.length by omega)
            refine xc_region ?_
            refine xl_pure rfl rfl rfl (pv_indexAddr_l rfl (sl_eq (hje (by omega)).1) rfl (by omega)) ?_
            refine xl_light rfl rfl rfl (lv_load (v := .agg _) rfl rfl (by exact ld_row' (hje (by omega)).2 hjr0.1 (by omega))) ?_
            refine xl_heavy rfl rfl rfl (hv_alloc rfl rfl) ?_
            rintro v10_2 H10_2 ⟨b10_2, rfl, hN10_2⟩
            have gb10_2 := hX.fresh hN10_2
            have gb10_2_hX6_5 := hX6_5.fresh hN10_2
            have nm3_1_10_2 := m3_1.apart hN10_2
            have nm6_3_10_2 := m6_3.apart hN10_2
            have m3_1 := m3_1.ext hN10_2.ext
            have hO := hO.ext hN10_2.ext
            have m6_3 := m6_3.ext hN10_2.ext
            have hX := hX.trans hN10_2.ext
            have hX6_5 := hX6_5.trans hN10_2.ext
            have m10_2 := hN10_2.blk
            refine xl_store rfl rfl (hv_storeA (vs := ints (gr (gD D k).2 j)) rfl rfl rfl (m10_2) (ints_ten hr2) (by rfl) (ints_one _)) ?_
            rintro v10_3 H10_3 ⟨hU10_3, hZ10_3⟩
            have hX6_5 := hX6_5.upd hU10_3.but gb10_2_hX6_5
            have m3_1 := m3_1.off hU10_3.but (by first | exact nm3_1_10_2 | exact ⟨m3_1.ne m10_2 rfl⟩ | exact ⟨m3_1.ne m10_2 (by assumption)⟩ | exact ⟨Ne.symm (m10_2.ne m3_1 (by assumption))⟩)
            have hO := hO.offU m10_2 hU10_3.but (.inl rfl)
            have m6_3 := m6_3.off hU10_3.but (by first | exact nm6_3_10_2 | exact ⟨m6_3.ne m10_2 rfl⟩ | exact ⟨m6_3.ne m10_2 (by assumption)⟩ | exact ⟨Ne.symm (m10_2.ne m6_3 (by assumption))⟩)
            have hX := hX.upd hU10_3.but gb10_2
            have m10_2 := hU10_3.blk
            refine xl_nil ?_
            refine xthen_normal ?_
            refine xc_seq ?_
            refine xc_seq ?_
            refine xc_region ?_
            refine xl_pure rfl rfl rfl (pv_fieldAddr rfl rfl) ?_
            refine xl_light rfl rfl rfl (lv_load (v := .int _ _) rfl rfl (by exact ld_get (i := 0) m10_2 (by omega))) ?_
            refine xl_heavy rfl rfl rfl (hv_call (g := 26) rfl rfl (gIsChar (ow (gr (gD D k).2 j))) rfl) ?_
            rintro v11_2 H11_2 ⟨hv11_2, rfl⟩
            rcases hv11_2 with ⟨hi11_2, rfl⟩ | ⟨hi11_2, rfl⟩
            · skip
              refine xl_pure rfl rfl rfl (pv_not rfl rfl) ?_
              refine xl_pure rfl rfl rfl (pv_move (v := .bool _) rfl rfl) ?_
              refine xl_pure rfl rfl rfl (pv_fieldAddr rfl rfl) ?_
              refine xl_light rfl rfl rfl (lv_load (v := .int _ _) rfl rfl (by exact ld_get (i := 1) m10_2 (by omega))) ?_
              refine xl_heavy rfl rfl rfl (hv_call (g := 27) rfl rfl (gCheck0 (mo (gr (gD D k).2 j))) rfl) ?_
              rintro v11_7 H11_7 ⟨hv11_7, rfl⟩
              rcases hv11_7 with ⟨hi11_7, rfl⟩ | ⟨hi11_7, rfl⟩
              · skip
                refine xl_ndec rfl rfl rfl (pv_neq rfl rfl rfl) (fun h11_8 => ?_) (fun h11_8 => ?_)
                · skip
                  refine xl_pure rfl rfl rfl (pv_pick_f (v := .bool _) rfl rfl rfl) ?_
                  refine xl_pure rfl rfl rfl (pv_move (v := .bool _) rfl rfl) ?_
                  refine xl_pure rfl rfl rfl (pv_fieldAddr rfl rfl) ?_
                  refine xl_light rfl rfl rfl (lv_load (v := .int _ _) rfl rfl (by exact ld_get (i := 0) m10_2 (by omega))) ?_
                  refine xl_pure rfl rfl rfl (pv_move (v := .int _ _) rfl rfl) ?_
                  refine xl_dec rfl rfl rfl (pv_leq rfl rfl rfl) (fun h11_14 => ?_) (fun h11_14 => ?_)
                  · skip
                    refine xl_pure rfl rfl rfl (pv_pick_f (v := .bool _) rfl rfl rfl) ?_
                    refine xl_nil ?_
                    refine xthen_normal ?_
                    refine xc_cond_t rfl ?_
                    refine xc_seq ?_
                    refine xc_region ?_
                    refine xl_pure rfl rfl rfl (pv_assign (v := .pointer _) rfl rfl) ?_
                    refine xl_pure rfl rfl rfl (pv_assign (v := .int _ _) rfl rfl) ?_
                    refine xl_nil ?_
                    refine xthen_normal ?_
                    refine xc_ret ?_
                    refine xthen_ret ?_
                    refine xblock_ret ?_
                    refine xthen_ret ?_
                    refine xthen_ret ?_
                    refine xblock_ret ?_
                    refine xthen_ret ?_
                    refine xblock_ret ?_
                    refine xthen_ret ?_
                    refine xthen_ret ?_
                    refine xblock_ret ?_
                    refine xthen_ret ?_
                    refine fin_ret (res2 (v := .pointer _) (x := .int _ _) rfl rfl rfl) ?_
                    exact ⟨1, .inr ⟨rfl, bad_mem (k := k) (j := j) (by omega) (by omega) (mp_bad (by first | exact .inl hi11_2 | exact .inr (.inl hi11_7) | exact .inr (.inr ⟨hi11_2, h11_14⟩)))⟩, .inr ⟨by decide, rfl⟩, hX⟩
                  · skip
                    refine xl_pure rfl rfl rfl (pv_pick_f (v := .bool _) rfl rfl rfl) ?_
                    refine xl_nil ?_
                    refine xthen_normal ?_
                    refine xc_cond_f rfl ?_
                    refine xc_skip ?_
                    refine xthen_normal ?_
                    refine xc_region ?_
                    refine xl_pure rfl rfl rfl (pv_fieldAddr rfl rfl) ?_
                    refine xl_light rfl rfl rfl (lv_load (v := .int _ _) rfl rfl (by exact ld_get (i := 0) m10_2 (by omega))) ?_
                    refine xl_pure rfl rfl rfl (pv_assign (v := .int _ _) rfl rfl) ?_
                    refine xl_nil ?_
                    refine xblock_normal ?_
                    refine xthen_normal ?_
                    refine xc_region ?_
                    refine xl_pure rfl rfl rfl (pv_add rfl rfl rfl (fit_i64 (by omega))) ?_
                    refine xl_pure rfl rfl rfl (pv_move (v := .int _ _) rfl rfl) ?_
                    refine xl_nil ?_
                    refine xthen_normal ?_
                    exact ⟨j + 1, ⟨rfl, rfl, rfl, rfl, rfl, rfl, rfl, rfl, rfl, rfl, trivial⟩, ⟨by (try simp only); omega, mp_next hmp hi11_2 hi11_7 h11_14, m6_3, m3_1, hO, hX6_5, hX⟩, by (try simp only); omega⟩
                · exact absurd (by decide) h11_8
              · skip
                refine xl_ndec rfl rfl rfl (pv_neq rfl rfl rfl) (fun h11_8 => ?_) (fun h11_8 => ?_)
                · exact absurd h11_8 (by decide)
                · skip
                  refine xl_pure rfl rfl rfl (pv_pick_f (v := .bool _) rfl rfl rfl) ?_
                  refine xl_pure rfl rfl rfl (pv_move (v := .bool _) rfl rfl) ?_
                  refine xl_skip rfl rfl rfl ?_
                  refine xl_skip rfl rfl rfl ?_
                  refine xl_skip rfl rfl rfl ?_
                  refine xl_skip rfl rfl rfl ?_
                  refine xl_pure rfl rfl rfl (pv_pick_t (v := .bool _) rfl rfl rfl) ?_
                  refine xl_nil ?_
                  refine xthen_normal ?_
                  refine xc_cond_t rfl ?_
                  refine xc_seq ?_
                  refine xc_region ?_
                  refine xl_pure rfl rfl rfl (pv_assign (v := .pointer _) rfl rfl) ?_
                  refine xl_pure rfl rfl rfl (pv_assign (v := .int _ _) rfl rfl) ?_
                  refine xl_nil ?_
                  refine xthen_normal ?_
                  refine xc_ret ?_
                  refine xthen_ret ?_
                  refine xblock_ret ?_
                  refine xthen_ret ?_
                  refine xthen_ret ?_
                  refine xblock_ret ?_
                  refine xthen_ret ?_
                  refine xblock_ret ?_
                  refine xthen_ret ?_
                  refine xthen_ret ?_
                  refine xblock_ret ?_
                  refine xthen_ret ?_
                  refine fin_ret (res2 (v := .pointer _) (x := .int _ _) rfl rfl rfl) ?_
                  exact ⟨1, .inr ⟨rfl, bad_mem (k := k) (j := j) (by omega) (by omega) (mp_bad (by first | exact .inl hi11_2 | exact .inr (.inl hi11_7) | exact .inr (.inr ⟨hi11_2, h11_14⟩)))⟩, .inr ⟨by decide, rfl⟩, hX⟩
            · skip
              refine xl_pure rfl rfl rfl (pv_not rfl rfl) ?_
              refine xl_pure rfl rfl rfl (pv_move (v := .bool _) rfl rfl) ?_
              refine xl_skip rfl rfl rfl ?_
              refine xl_skip rfl rfl rfl ?_
              refine xl_skip rfl rfl rfl ?_
              refine xl_skip rfl rfl rfl ?_
              refine xl_pure rfl rfl rfl (pv_pick_t (v := .bool _) rfl rfl rfl) ?_
              refine xl_pure rfl rfl rfl (pv_move (v := .bool _) rfl rfl) ?_
              refine xl_skip rfl rfl rfl ?_
              refine xl_skip rfl rfl rfl ?_
              refine xl_skip rfl rfl rfl ?_
              refine xl_skip rfl rfl rfl ?_
              refine xl_pure rfl rfl rfl (pv_pick_t (v := .bool _) rfl rfl rfl) ?_
              refine xl_nil ?_
              refine xthen_normal ?_
              refine xc_cond_t rfl ?_
              refine xc_seq ?_
              refine xc_region ?_
              refine xl_pure rfl rfl rfl (pv_assign (v := .pointer _) rfl rfl) ?_
              refine xl_pure rfl rfl rfl (pv_assign (v := .int _ _) rfl rfl) ?_
              refine xl_nil ?_
              refine xthen_normal ?_
              refine xc_ret ?_
              refine xthen_ret ?_
              refine xblock_ret ?_
              refine xthen_ret ?_
              refine xthen_ret ?_
              refine xblock_ret ?_
              refine xthen_ret ?_
              refine xblock_ret ?_
              refine xthen_ret ?_
              refine xthen_ret ?_
              refine xblock_ret ?_
              refine xthen_ret ?_
              refine fin_ret (res2 (v := .pointer _) (x := .int _ _) rfl rfl rfl) ?_
              exact ⟨1, .inr ⟨rfl, bad_mem (k := k) (j := j) (by omega) (by omega) (mp_bad (by first | exact .inl hi11_2 | exact .inr (.inl hi11_7) | exact .inr (.inr ⟨hi11_2, h11_14⟩)))⟩, .inr ⟨by decide, rfl⟩, hX⟩
          · skip
            refine xl_nil ?_
            refine xthen_normal ?_
            refine xc_seq ?_
            refine xc_cond_f rfl ?_
            refine xc_exit ?_
            refine xthen_exit ?_
            refine xthen_exit ?_
            refine xblock_same ?_
            refine xthen_normal ?_
            refine xc_seq ?_
            refine xc_seq ?_
            obtain rfl : j = (gD D k).2.length := by omega
            have hmok := mp_ok hjr0.1 hmp
            refine xc_region ?_
            refine xl_pure rfl rfl rfl (pv_fieldAddr rfl rfl) ?_
            refine xl_light rfl rfl rfl (lv_load (v := .int _ _) rfl rfl (ld_blk m6_3 rfl)) ?_
            refine xl_pure rfl rfl rfl (pv_move (v := .int _ _) rfl rfl) ?_
            refine xl_pure rfl rfl rfl (pv_add rfl rfl rfl (fit_i64 (by omega))) ?_
            refine xl_ndec rfl rfl rfl (pv_neq rfl rfl rfl) (fun h15_4 => ?_) (fun h15_4 => ?_)
            · skip
              refine xl_pure rfl rfl rfl (pv_move (v := .bool _) rfl rfl) ?_
              refine xl_pure rfl rfl rfl (pv_fieldAddr rfl rfl) ?_
              refine xl_light rfl rfl rfl (lv_load (v := .slice _ _ _) rfl rfl (ld_blk m6_3 rfl)) ?_
              refine xl_heavy rfl rfl rfl (hv_call (g := 28) rfl rfl (gLed (hjr0.rows.ext hX) (by omega) (fun r hr => (hmok.ok r hr).2)) rfl) ?_
              rintro v15_8 H15_8 ⟨hv15_8, hE15_8⟩
              have m3_1 := m3_1.ext hE15_8
              have hO := hO.ext hE15_8
              have m6_3 := m6_3.ext hE15_8
              have hX := hX.trans hE15_8
              have hX6_5 := hX6_5.trans hE15_8
              rcases hl15_8 : ledR (gD D k).2 with _ | _
              · skip
                rw [hl15_8] at hv15_8
                subst hv15_8
                refine xl_pure rfl rfl rfl (pv_not rfl rfl) ?_
                refine xl_pure rfl rfl rfl (pv_pick_f (v := .bool _) rfl rfl rfl) ?_
                refine xl_nil ?_
                refine xthen_normal ?_
                refine xc_cond_t rfl ?_
                refine xc_seq ?_
                refine xc_region ?_
                refine xl_pure rfl rfl rfl (pv_assign (v := .pointer _) rfl rfl) ?_
                refine xl_pure rfl rfl rfl (pv_assign (v := .int _ _) rfl rfl) ?_
                refine xl_nil ?_
                refine xthen_normal ?_
                refine xc_ret ?_
                refine xthen_ret ?_
                refine xblock_ret ?_
                refine xthen_ret ?_
                refine xthen_ret ?_
                refine xblock_ret ?_
                refine xthen_ret ?_
                refine fin_ret (res2 (v := .pointer _) (x := .int _ _) rfl rfl rfl) ?_
                exact ⟨1, .inr ⟨rfl, not_all (k := k) (by omega) (fun h => by first | exact h15_4 h.1 | (have h5 := h.2.2; rw [hl15_8] at h5; cases h5))⟩, .inr ⟨by decide, rfl⟩, hX⟩
              · skip
                rw [hl15_8] at hv15_8
                subst hv15_8
                refine xl_pure rfl rfl rfl (pv_not rfl rfl) ?_
                refine xl_pure rfl rfl rfl (pv_pick_f (v := .bool _) rfl rfl rfl) ?_
                refine xl_nil ?_
                refine xthen_normal ?_
                refine xc_cond_f rfl ?_
                refine xc_skip ?_
                refine xthen_normal ?_
                refine xp_start rfl (by repeat (first | with_reducible exact np_fin | with_reducible exact np_ret | with_reducible refine np_then ?_ | with_reducible refine np_block ?_)) (by kernel_rfl) ?_
                refine xp_pure (i := 0) rfl (by kernel_rfl) (by kernel_rfl) rfl rfl rfl (pv_move (v := .pointer _) rfl rfl) ?_
                refine xp_pure (i := 1) rfl (by kernel_rfl) (by kernel_rfl) rfl rfl rfl (pv_move (v := .pointer _) rfl rfl) ?_
                refine xp_pure (i := 2) rfl (by kernel_rfl) (by kernel_rfl) rfl rfl rfl (pv_nilCheck_p rfl rfl) ?_
                refine xp_pure (i := 3) rfl (by kernel_rfl) (by kernel_rfl) rfl rfl rfl (pv_fieldAddr rfl rfl) ?_
                refine xp_light (i := 4) rfl (by kernel_rfl) (by kernel_rfl) rfl rfl rfl (lv_load (v := .slice _ _ _) rfl rfl (ld_blk m3_1 rfl)) ?_
                refine xp_pure (i := 5) rfl (by kernel_rfl) (by kernel_rfl) rfl rfl rfl (pv_fieldAddr rfl rfl) ?_
                refine xp_light (i := 6) rfl (by kernel_rfl) (by kernel_rfl) rfl rfl rfl (lv_load (v := .slice _ _ _) rfl rfl (ld_blk m6_3 rfl)) ?_
                refine xp_heavy (i := 7) (by kernel_rfl) ?_
                refine xph_val rfl rfl rfl rfl (hv_call (g := 29) rfl rfl (gCloneM (hjr0.rows.ext hX) (by omega)) rfl) (pd (by kernel_rfl) (pk (by kernel_rfl) pn)) ?_
                rintro v17_7 H17_7 ⟨a17_7, c17_7, rfl, hQ17_7, hE17_7⟩
                have m3_1 := m3_1.ext hE17_7
                have hO := hO.ext hE17_7
                have m6_3 := m6_3.ext hE17_7
                have hX := hX.trans hE17_7
                have hX6_5 := hX6_5.trans hE17_7
                have hM := hMe.ext hX6_5
                refine ⟨(okc (lv_load (v := .slice _ _ _) rfl rfl (ld_blk m3_1 rfl)) okn), ?_⟩
                refine xp_heavy (i := 8) (by kernel_rfl) ?_
                refine xph_val rfl rfl rfl rfl (hv_buildSlice (cs := [.slice _ _ _]) rfl rfl rfl rfl rfl) (pk (by kernel_rfl) pn) ?_
                rintro v17_8 H17_8 ⟨b17_8, rfl, hN17_8⟩
                have gb17_8 := hX.fresh hN17_8
                have gb17_8_hX6_5 := hX6_5.fresh hN17_8
                have nm3_1_17_8 := m3_1.apart hN17_8
                have pm17_8_hO := hO.apartN hN17_8
                have nm6_3_17_8 := m6_3.apart hN17_8
                have m3_1 := m3_1.ext hN17_8.ext
                have hO := hO.ext hN17_8.ext
                have m6_3 := m6_3.ext hN17_8.ext
                have hQ17_7 := hQ17_7.ext hN17_8.ext
                have hM := hM.ext hN17_8.ext
                have hX := hX.trans hN17_8.ext
                have hX6_5 := hX6_5.trans hN17_8.ext
                have m17_8 := hN17_8.blk
                refine ⟨(okc (lv_load (v := .slice _ _ _) rfl rfl (ld_blk m3_1 rfl)) okn), ?_⟩
                refine xp_heavy (i := 9) (by kernel_rfl) ?_
                refine xph_val rfl rfl rfl rfl (hv_append (size := 1) rfl rfl hO rfl m17_8.row rfl (by simp [Value.oneCell']) rfl (by decide) (by omega) (by omega) hX.size) (pd (by kernel_rfl) pn) ?_
                rintro v17_9 H17_9 ⟨hO17_9, hG17_9, -, hB17_9⟩
                have m3_1 := m3_1.offT hO hG17_9 rfl
                have m6_3 := m6_3.offT hO hG17_9 rfl
                have hQ17_7 := hQ17_7.offG hO hG17_9 (by decide)
                have hM := hM.growT hO hG17_9 (by first | rfl | assumption)
                have hX := hO.grown hX hG17_9 (Nat.le_refl _)
                obtain ⟨a17_9, c17_9, rfl⟩ := hO17_9.val
                refine ⟨okn, ?_⟩
                refine xp_pure (i := 10) rfl (by kernel_rfl) (by kernel_rfl) rfl rfl rfl (pv_nilCheck_p rfl rfl) ?_
                refine xp_pure (i := 11) rfl (by kernel_rfl) (by kernel_rfl) rfl rfl rfl (pv_fieldAddr rfl rfl) ?_
                refine xp_heavy (i := 12) (by kernel_rfl) ?_
                refine xph_store rfl rfl rfl (hv_store (vs := [.slice _ _ _]) rfl rfl rfl (m3_1) rfl (Nat.le_of_ble_eq_true rfl) rfl) pn ?_
                rintro v17_12 H17_12 ⟨hU17_12, hZ17_12⟩
                have m6_3 := m6_3.off hU17_12.but (by first | exact nm3_1_6_3.symm | exact ⟨m6_3.ne m3_1 rfl⟩ | exact ⟨m6_3.ne m3_1 (by assumption)⟩ | exact ⟨Ne.symm (m3_1.ne m6_3 (by assumption))⟩)
                have hQ17_7 := hQ17_7.offU m3_1 hU17_12.but (.inl rfl)
                have hM := hM.offT m3_1 hU17_12.but (by first | rfl | assumption)
                have hO17_9 := hO17_9.offU m3_1 hU17_12.but (.inl rfl)
                have hX := hX.upd hU17_12.but gb3_1
                have m3_1 := hU17_12.blk
                refine ⟨okn, ?_⟩
                refine xp_done (by kernel_rfl) ?_
                refine xblock_normal ?_
                refine xthen_normal ?_
                refine xc_region ?_
                refine xl_pure rfl rfl rfl (pv_add rfl rfl rfl (fit_i64 (by omega))) ?_
                refine xl_pure rfl rfl rfl (pv_move (v := .int _ _) rfl rfl) ?_
                refine xl_nil ?_
                refine xthen_normal ?_
                exact ⟨(k + 1, _, _, _), ⟨rfl, rfl, rfl, rfl, trivial⟩, ⟨by (try simp only); omega, all_next hall ⟨h15_4, hmok, hl15_8⟩, m3_1, hO17_9, by rw [mX_take (by omega)]; exact hM.snoc (own_rowsT hmok.wide hQ17_7), hX⟩, by (try simp only); omega⟩
            · skip
              refine xl_pure rfl rfl rfl (pv_move (v := .bool _) rfl rfl) ?_
              refine xl_skip rfl rfl rfl ?_
              refine xl_skip rfl rfl rfl ?_
              refine xl_skip rfl rfl rfl ?_
              refine xl_skip rfl rfl rfl ?_
              refine xl_pure rfl rfl rfl (pv_pick_t (v := .bool _) rfl rfl rfl) ?_
              refine xl_nil ?_
              refine xthen_normal ?_
              refine xc_cond_t rfl ?_
              refine xc_seq ?_
              refine xc_region ?_
              refine xl_pure rfl rfl rfl (pv_assign (v := .pointer _) rfl rfl) ?_
              refine xl_pure rfl rfl rfl (pv_assign (v := .int _ _) rfl rfl) ?_
              refine xl_nil ?_
              refine xthen_normal ?_
              refine xc_ret ?_
              refine xthen_ret ?_
              refine xblock_ret ?_
              refine xthen_ret ?_
              refine xthen_ret ?_
              refine xblock_ret ?_
              refine xthen_ret ?_
              refine fin_ret (res2 (v := .pointer _) (x := .int _ _) rfl rfl rfl) ?_
              exact ⟨1, .inr ⟨rfl, not_all (k := k) (by omega) (fun h => by first | exact h15_4 h.1 | (have h5 := h.2.2; rw [hl15_8] at h5; cases h5))⟩, .inr ⟨by decide, rfl⟩, hX⟩
      · skip
        refine xl_nil ?_
        refine xthen_normal ?_
        refine xc_seq ?_
        refine xc_cond_f rfl ?_
        refine xc_exit ?_
        refine xthen_exit ?_
        refine xthen_exit ?_
        refine xblock_same ?_
        refine xthen_normal ?_
        refine xc_seq ?_
        refine xc_region ?_
        refine xl_pure rfl rfl rfl (pv_move (v := .pointer _) rfl rfl) ?_
        refine xl_pure rfl rfl rfl (pv_assign (v := .pointer _) rfl rfl) ?_
        refine xl_pure rfl rfl rfl (pv_assign (v := .int _ _) rfl rfl) ?_
        refine xl_nil ?_
        refine xthen_normal ?_
        refine xc_ret ?_
        refine fin_ret (res2 (v := .pointer _) (x := .int _ _) rfl rfl rfl) ?_
        obtain rfl : k = D.length := by omega
        rw [List.take_of_length_le (by rw [mX_len]; omega)] at hM
        exact ⟨0, .inl ⟨rfl, by omega, hall⟩, .inl ⟨rfl, _, rfl, gb3_1, _, _, _, by rw [mX_len]; exact m3_1, by rw [mX_len]; exact hO, hM⟩, hX⟩

theorem rLoad {O : Outer} {H : Heap} {al : Option Addr} {cl B0 : Nat} {D : List (Int × List (List Int))} (hD : DK H B0 al D) (hml : ∀ k, k < D.length → (gD D k).2.length < 100000) (hDl : D.length < 1000000) :
    FnC Try.prog 11 #[.slice al D.length cl] O H (fun v H' => ∃ e, LdG D e ∧ (e = 0 ∧ v = .tuple #[.slice al D.length cl, .int .i64 0] ∨ e ≠ 0 ∧ v = .tuple #[.slice none 0 0, .int .i64 e]) ∧ H = H') := by
  refine fn_enter (A := [.slice al D.length cl]) Try.func11 rfl rfl ?_
  have hX := Ext.refl H
  refine xc_seq ?_
  refine xc_region ?_
  refine xl_pure rfl rfl rfl (pv_assign (v := .slice _ _ _) rfl rfl) ?_
  refine xl_pure rfl rfl rfl (pv_assign (v := .int _ _) rfl rfl) ?_
  refine xl_nil ?_
  refine xthen_normal ?_
  refine xc_seq ?_
  refine xc_seq ?_
  refine xc_region ?_
  refine xl_pure rfl rfl rfl (pv_move (v := .slice _ _ _) rfl rfl) ?_
  refine xl_pure rfl rfl rfl (pv_len_l rfl rfl) ?_
  refine xl_dec rfl rfl rfl (pv_gtr rfl rfl rfl) (fun h1_2 => ?_) (fun h1_2 => ?_)
  · skip
    refine xl_nil ?_
    refine xthen_normal ?_
    refine xc_cond_t rfl ?_
    refine xc_seq ?_
    refine xc_region ?_
    refine xl_pure rfl rfl rfl (pv_assign (v := .slice _ _ _) rfl rfl) ?_
    refine xl_pure rfl rfl rfl (pv_assign (v := .int _ _) rfl rfl) ?_
    refine xl_nil ?_
    refine xthen_normal ?_
    refine xc_ret ?_
    refine xthen_ret ?_
    refine fin_ret (res2 (v := .slice _ _ _) (x := .int _ _) rfl rfl rfl) ?_
    exact ⟨1, .inr ⟨rfl, fun h => by have := h.1; omega⟩, .inr ⟨by decide, rfl⟩, rfl⟩
  · skip
    refine xl_nil ?_
    refine xthen_normal ?_
    refine xc_cond_f rfl ?_
    refine xc_skip ?_
    refine xthen_normal ?_
    refine xc_seq ?_
    refine xc_seq ?_
    refine xc_region ?_
    refine xl_pure rfl rfl rfl (pv_assign (v := .int _ _) rfl rfl) ?_
    refine xl_nil ?_
    refine xthen_normal ?_
    refine xc_block ?_
    refine xc_loop (τ := Nat) (fun t => [(0, .slice al D.length cl), (4, .int .i64 (t : Nat))]) (fun t H' => (t ≤ D.length) ∧ (∀ j, j < t → OkG D j) ∧ (H = H') ∧ (Ext H H')) (fun t H' => D.length - t) 0 ?_ ?_ ?_
    · exact ⟨rfl, rfl, trivial⟩
    · skip
      exact ⟨Nat.zero_le _, fun j h => absurd h (by omega), rfl, hX⟩
    · intro σ
      clear hX
      rintro k Hl4 ⟨hk, hall, heq, hX⟩
      replace hk : k ≤ D.length := hk
      replace hall : ∀ j, j < k → OkG D j := hall
      replace heq : H = Hl4 := heq
      replace hX : Ext H Hl4 := hX
      subst heq
      obtain ⟨dg, do_, hde⟩ := (hD.ext hX).at'
      show XC _ _ _ (upds σ [(0, .slice al D.length cl), (4, .int .i64 (k : Nat))]) _
      refine xc_seq ?_
      refine xc_seq ?_
      refine xc_region ?_
      refine xl_pure rfl rfl rfl (pv_move (v := .int _ _) rfl rfl) ?_
      refine xl_pure rfl rfl rfl (pv_move (v := .slice _ _ _) rfl rfl) ?_
      refine xl_pure rfl rfl rfl (pv_len_l rfl rfl) ?_
      refine xl_dec rfl rfl rfl (pv_lss rfl rfl rfl) (fun h4_3 => ?_) (fun h4_3 => ?_)
      · skip
        refine xl_nil ?_
        refine xthen_normal ?_
        refine xc_cond_t rfl ?_
        refine xc_skip ?_
        refine xthen_normal ?_
        refine xc_seq ?_
        refine xc_block ?_
        refine xc_seq ?_
        obtain ⟨aj, cj, hld, hjr, hl1, hl2⟩ := ld_d (hde (by omega)).2 (show k < D.length by omega)
        have hmlk := hml k (by omega)
        refine xc_region ?_
        refine xl_pure rfl rfl rfl (pv_move (v := .slice _ _ _) rfl rfl) ?_
        refine xl_pure rfl rfl rfl (pv_move (v := .int _ _) rfl rfl) ?_
        refine xl_pure rfl rfl rfl (pv_indexAddr_l rfl (sl_eq (hde (by omega)).1) rfl (by omega)) ?_
        refine xl_pure rfl rfl rfl (pv_fieldAddr rfl rfl) ?_
        refine xl_light rfl rfl rfl (lv_load (v := .slice _ _ _) rfl rfl (by exact hl2)) ?_
        refine xl_pure rfl rfl rfl (pv_assign (v := .slice _ _ _) rfl rfl) ?_
        refine xl_nil ?_
        refine xthen_normal ?_
        refine xc_seq ?_
        refine xc_seq ?_
        refine xc_region ?_
        refine xl_pure rfl rfl rfl (pv_move (v := .slice _ _ _) rfl rfl) ?_
        refine xl_pure rfl rfl rfl (pv_move (v := .int _ _) rfl rfl) ?_
        refine xl_pure rfl rfl rfl (pv_indexAddr_l rfl (sl_eq (hde (by omega)).1) rfl (by omega)) ?_
        refine xl_pure rfl rfl rfl (pv_fieldAddr rfl rfl) ?_
        refine xl_light rfl rfl rfl (lv_load (v := .int _ _) rfl rfl (by exact hl1)) ?_
        refine xl_pure rfl rfl rfl (pv_move (v := .int _ _) rfl rfl) ?_
        refine xl_pure rfl rfl rfl (pv_add rfl rfl rfl (fit_i64 (by omega))) ?_
        refine xl_ndec rfl rfl rfl (pv_neq rfl rfl rfl) (fun h7_7 => ?_) (fun h7_7 => ?_)
        · skip
          refine xl_pure rfl rfl rfl (pv_move (v := .bool _) rfl rfl) ?_
          refine xl_pure rfl rfl rfl (pv_move (v := .slice _ _ _) rfl rfl) ?_
          refine xl_heavy rfl rfl rfl (hv_call (g := 30) rfl rfl (rLed hjr.rows (by omega)) rfl) ?_
          rintro v7_10 H7_10 ⟨hv7_10, rfl⟩
          rcases hl7_10 : ledD (gD D k).2 with _ | _
          · skip
            rw [hl7_10] at hv7_10
            subst hv7_10
            refine xl_pure rfl rfl rfl (pv_not rfl rfl) ?_
            refine xl_pure rfl rfl rfl (pv_pick_f (v := .bool _) rfl rfl rfl) ?_
            refine xl_nil ?_
            refine xthen_normal ?_
            refine xc_cond_t rfl ?_
            refine xc_seq ?_
            refine xc_region ?_
            refine xl_pure rfl rfl rfl (pv_assign (v := .slice _ _ _) rfl rfl) ?_
            refine xl_pure rfl rfl rfl (pv_assign (v := .int _ _) rfl rfl) ?_
            refine xl_nil ?_
            refine xthen_normal ?_
            refine xc_ret ?_
            refine xthen_ret ?_
            refine xblock_ret ?_
            refine xthen_ret ?_
            refine xthen_ret ?_
            refine xblock_ret ?_
            refine xthen_ret ?_
            refine fin_ret (res2 (v := .slice _ _ _) (x := .int _ _) rfl rfl rfl) ?_
            exact ⟨1, .inr ⟨rfl, not_all (k := k) (by omega) (fun h => by first | exact h7_7 h.1 | (have h5 := okg_led h; rw [hl7_10] at h5; cases h5))⟩, .inr ⟨by decide, rfl⟩, rfl⟩
          · skip
            rw [hl7_10] at hv7_10
            subst hv7_10
            refine xl_pure rfl rfl rfl (pv_not rfl rfl) ?_
            refine xl_pure rfl rfl rfl (pv_pick_f (v := .bool _) rfl rfl rfl) ?_
            refine xl_nil ?_
            refine xthen_normal ?_
            refine xc_cond_f rfl ?_
            refine xc_skip ?_
            refine xthen_normal ?_
            refine xc_seq ?_
            refine xc_region ?_
            refine xl_pure rfl rfl rfl (pv_assign (v := .int _ _) rfl rfl) ?_
            refine xl_nil ?_
            refine xthen_normal ?_
            refine xc_block ?_
            refine xc_loop (τ := Nat) (fun t => [(0, .slice al D.length cl), (4, .int .i64 (k : Nat)), (5, .slice aj (gD D k).2.length cj), (6, .int .i64 (t : Nat))]) (fun t H' => (t ≤ (gD D k).2.length) ∧ (MP (gD D k).2 t) ∧ (H = H') ∧ (Ext H H')) (fun t H' => (gD D k).2.length - t) 0 ?_ ?_ ?_
            · exact ⟨rfl, rfl, rfl, rfl, trivial⟩
            · skip
              exact ⟨Nat.zero_le _, fun i h => absurd h (by omega), rfl, hX⟩
            · intro σ
              clear hX
              rintro j Hl10 ⟨hj, hmp, heq, hX⟩
              replace hj : j ≤ (gD D k).2.length := hj
              replace hmp : MP (gD D k).2 j := hmp
              replace heq : H = Hl10 := heq
              replace hX : Ext H Hl10 := hX
              subst heq
              obtain ⟨bj, oj, hje⟩ := hjr.rows.at'
              show XC _ _ _ (upds σ [(0, .slice al D.length cl), (4, .int .i64 (k : Nat)), (5, .slice aj (gD D k).2.length cj), (6, .int .i64 (j : Nat))]) _
              refine xc_seq ?_
              refine xc_seq ?_
              refine xc_region ?_
              refine xl_pure rfl rfl rfl (pv_move (v := .int _ _) rfl rfl) ?_
              refine xl_pure rfl rfl rfl (pv_move (v := .slice _ _ _) rfl rfl) ?_
              refine xl_pure rfl rfl rfl (pv_len_l rfl rfl) ?_
              refine xl_dec rfl rfl rfl (pv_lss rfl rfl rfl) (fun h10_3 => ?_) (fun h10_3 => ?_)
              · skip
                refine xl_nil ?_
                refine xthen_normal ?_
                refine xc_cond_t rfl ?_
                refine xc_skip ?_
                refine xthen_normal ?_
                refine xc_seq ?_
                refine xc_block ?_
                refine xc_seq ?_
                refine xp_start rfl (by repeat (first | with_reducible exact np_fin | with_reducible exact np_ret | with_reducible refine np_then ?_ | with_reducible refine np_block ?_)) (by kernel_rfl) ?_
                refine xp_pure (i := 0) rfl (by kernel_rfl) (by kernel_rfl) rfl rfl rfl (pv_move (v := .slice _ _ _) rfl rfl) ?_
                refine xp_pure (i := 1) rfl (by kernel_rfl) (by kernel_rfl) rfl rfl rfl (pv_move (v := .int _ _) rfl rfl) ?_
                refine xp_pure (i := 2) rfl (by kernel_rfl) (by kernel_rfl) rfl rfl rfl (pv_indexAddr_l rfl (sl_eq (hje (by omega)).1) rfl (by omega)) ?_
                refine xp_pure (i := 3) rfl (by kernel_rfl) (by kernel_rfl) rfl rfl rfl (pv_fieldAddr rfl rfl) ?_
                refine xp_light (i := 4) rfl (by kernel_rfl) (by kernel_rfl) rfl rfl rfl (lv_load (v := .int _ _) rfl rfl (by exact ld_num (j := 0) (hje (by omega)).2 hjr.1 (by omega) (by decide))) ?_
                refine xp_heavy (i := 5) (by kernel_rfl) ?_
                refine xph_val rfl rfl rfl rfl (hv_call (g := 31) rfl rfl (rIsChar (ow (gr (gD D k).2 j))) rfl) (pd (by kernel_rfl) pn) ?_
                rintro v12_5 H12_5 ⟨hv12_5, rfl⟩
                refine ⟨okn, ?_⟩
                rcases hv12_5 with ⟨hi12_5, rfl⟩ | ⟨hi12_5, rfl⟩
                · skip
                  refine xp_pure (i := 6) rfl (by kernel_rfl) (by kernel_rfl) rfl rfl rfl (pv_not rfl rfl) ?_
                  refine xp_pure (i := 7) rfl (by kernel_rfl) (by kernel_rfl) rfl rfl rfl (pv_move (v := .bool _) rfl rfl) ?_
                  refine xp_pure (i := 8) rfl (by kernel_rfl) (by kernel_rfl) rfl rfl rfl (pv_move (v := .slice _ _ _) rfl rfl) ?_
                  refine xp_pure (i := 9) rfl (by kernel_rfl) (by kernel_rfl) rfl rfl rfl (pv_move (v := .int _ _) rfl rfl) ?_
                  refine xp_pure (i := 10) rfl (by kernel_rfl) (by kernel_rfl) rfl rfl rfl (pv_indexAddr_l rfl (sl_eq (hje (by omega)).1) rfl (by omega)) ?_
                  refine xp_pure (i := 11) rfl (by kernel_rfl) (by kernel_rfl) rfl rfl rfl (pv_fieldAddr rfl rfl) ?_
                  refine xp_light (i := 12) rfl (by kernel_rfl) (by kernel_rfl) rfl rfl rfl (lv_load (v := .int _ _) rfl rfl (by exact ld_num (j := 1) (hje (by omega)).2 hjr.1 (by omega) (by decide))) ?_
                  refine xp_heavy (i := 13) (by kernel_rfl) ?_
                  refine xph_val rfl rfl rfl rfl (hv_call (g := 32) rfl rfl (rMay (mo (gr (gD D k).2 j))) rfl) (pd (by kernel_rfl) pn) ?_
                  rintro v12_13 H12_13 ⟨hv12_13, rfl⟩
                  refine ⟨okn, ?_⟩
                  rcases hv12_13 with ⟨hi12_13, rfl⟩ | ⟨hi12_13, rfl⟩
                  · skip
                    refine xp_pure (i := 14) rfl (by kernel_rfl) (by kernel_rfl) rfl rfl rfl (pv_not rfl rfl) ?_
                    refine xp_pure (i := 15) rfl (by kernel_rfl) (by kernel_rfl) rfl rfl rfl (pv_pick_f (v := .bool _) rfl rfl rfl) ?_
                    refine xp_pure (i := 16) rfl (by kernel_rfl) (by kernel_rfl) rfl rfl rfl (pv_move (v := .bool _) rfl rfl) ?_
                    refine xp_pure (i := 17) rfl (by kernel_rfl) (by kernel_rfl) rfl rfl rfl (pv_move (v := .int _ _) rfl rfl) ?_
                    refine xp_dec (i := 18) rfl (by kernel_rfl) (by kernel_rfl) rfl rfl rfl (pv_gtr rfl rfl rfl) (fun h12_18 => ?_) (fun h12_18 => ?_)
                    · skip
                      refine xp_pure (i := 19) rfl (by kernel_rfl) (by kernel_rfl) rfl rfl rfl (pv_move (v := .bool _) rfl rfl) ?_
                      refine xp_pure (i := 20) rfl (by kernel_rfl) (by kernel_rfl) rfl rfl rfl (pv_move (v := .slice _ _ _) rfl rfl) ?_
                      refine xp_pure (i := 21) rfl (by kernel_rfl) (by kernel_rfl) rfl rfl rfl (pv_move (v := .int _ _) rfl rfl) ?_
                      refine xp_pure (i := 22) rfl (by kernel_rfl) (by kernel_rfl) rfl rfl rfl (pv_indexAddr_l rfl (sl_eq (hje (by omega)).1) rfl (by omega)) ?_
                      refine xp_pure (i := 23) rfl (by kernel_rfl) (by kernel_rfl) rfl rfl rfl (pv_fieldAddr rfl rfl) ?_
                      refine xp_light (i := 24) rfl (by kernel_rfl) (by kernel_rfl) rfl rfl rfl (lv_load (v := .int _ _) rfl rfl (by exact ld_num (j := 0) (hje (by omega)).2 hjr.1 (by omega) (by decide))) ?_
                      refine xp_pure (i := 25) rfl (by kernel_rfl) (by kernel_rfl) rfl rfl rfl (pv_move (v := .slice _ _ _) rfl rfl) ?_
                      refine xp_pure (i := 26) rfl (by kernel_rfl) (by kernel_rfl) rfl rfl rfl (pv_move (v := .int _ _) rfl rfl) ?_
                      refine xp_pure (i := 27) rfl (by kernel_rfl) (by kernel_rfl) rfl rfl rfl (pv_sub rfl rfl rfl (fit_i64 (by omega))) ?_
                      refine xp_pure (i := 28) rfl (by kernel_rfl) (by kernel_rfl) rfl rfl rfl (pv_indexAddr_l rfl (sl_eq (hje (by omega)).1) rfl (by omega)) ?_
                      refine xp_pure (i := 29) rfl (by kernel_rfl) (by kernel_rfl) rfl rfl rfl (pv_fieldAddr rfl rfl) ?_
                      refine xp_light (i := 30) rfl (by kernel_rfl) (by kernel_rfl) rfl rfl rfl (lv_load (v := .int _ _) rfl rfl (by exact ld_num (j := 0) (hje (by omega)).2 hjr.1 (by omega) (by decide))) ?_
                      refine xp_dec (i := 31) rfl (by kernel_rfl) (by kernel_rfl) rfl rfl rfl (pv_leq rfl rfl rfl) (fun h12_31 => ?_) (fun h12_31 => ?_)
                      · skip
                        refine xp_pure (i := 32) rfl (by kernel_rfl) (by kernel_rfl) rfl rfl rfl (pv_pick_t (v := .bool _) rfl rfl rfl) ?_
                        refine xp_pure (i := 33) rfl (by kernel_rfl) (by kernel_rfl) rfl rfl rfl (pv_pick_f (v := .bool _) rfl rfl rfl) ?_
                        refine xp_done (by kernel_rfl) ?_
                        refine xthen_normal ?_
                        refine xc_cond_t rfl ?_
                        refine xc_seq ?_
                        refine xc_region ?_
                        refine xl_pure rfl rfl rfl (pv_assign (v := .slice _ _ _) rfl rfl) ?_
                        refine xl_pure rfl rfl rfl (pv_assign (v := .int _ _) rfl rfl) ?_
                        refine xl_nil ?_
                        refine xthen_normal ?_
                        refine xc_ret ?_
                        refine xblock_ret ?_
                        refine xthen_ret ?_
                        refine xthen_ret ?_
                        refine xblock_ret ?_
                        refine xblock_ret ?_
                        refine xthen_ret ?_
                        refine xthen_ret ?_
                        refine xblock_ret ?_
                        refine xthen_ret ?_
                        refine fin_ret (res2 (v := .slice _ _ _) (x := .int _ _) rfl rfl rfl) ?_
                        exact ⟨1, .inr ⟨rfl, bad_mem (k := k) (j := j) (by omega) (by omega) (fun h => by first | exact hi12_5 h.1.1 | exact hi12_13 h.1.2 | (have q1 := h.2 (by omega); have q2 := h12_31; have e : ((j : Int) - 1).toNat = j - 1 := (by omega); rw [e] at q2; exact absurd q2 (Int.not_le.2 q1)))⟩, .inr ⟨by decide, rfl⟩, rfl⟩
                      · skip
                        refine xp_pure (i := 32) rfl (by kernel_rfl) (by kernel_rfl) rfl rfl rfl (pv_pick_t (v := .bool _) rfl rfl rfl) ?_
                        refine xp_pure (i := 33) rfl (by kernel_rfl) (by kernel_rfl) rfl rfl rfl (pv_pick_f (v := .bool _) rfl rfl rfl) ?_
                        refine xp_done (by kernel_rfl) ?_
                        refine xthen_normal ?_
                        refine xc_cond_f rfl ?_
                        refine xc_skip ?_
                        refine xblock_normal ?_
                        refine xthen_normal ?_
                        refine xc_region ?_
                        refine xl_pure rfl rfl rfl (pv_move (v := .int _ _) rfl rfl) ?_
                        refine xl_pure rfl rfl rfl (pv_add rfl rfl rfl (fit_i64 (by omega))) ?_
                        refine xl_pure rfl rfl rfl (pv_assign (v := .int _ _) rfl rfl) ?_
                        refine xl_nil ?_
                        refine xthen_normal ?_
                        first
                          | exact ⟨j + 1, ⟨rfl, rfl, rfl, rfl, trivial⟩, ⟨by (try simp only); omega, mp_next2 hmp hi12_5 hi12_13 (fun h => absurd h (by omega)), rfl, hX⟩, by (try simp only); omega⟩
                          | exact ⟨j + 1, ⟨rfl, rfl, rfl, rfl, trivial⟩, ⟨by (try simp only); omega, mp_next2 hmp hi12_5 hi12_13 (fun _ => by first | exact h12_31 | (have q := h12_31; have e : ((j : Int) - 1).toNat = j - 1 := (by omega); rw [e] at q; exact q)), rfl, hX⟩, by (try simp only); omega⟩
                    · skip
                      refine xp_pure (i := 19) rfl (by kernel_rfl) (by kernel_rfl) rfl rfl rfl (pv_move (v := .bool _) rfl rfl) ?_
                      refine xp_skip (i := 20) rfl (by kernel_rfl) (by kernel_rfl) rfl rfl rfl ?_
                      refine xp_skip (i := 21) rfl (by kernel_rfl) (by kernel_rfl) rfl rfl rfl ?_
                      refine xp_skip (i := 22) rfl (by kernel_rfl) (by kernel_rfl) rfl rfl rfl ?_
                      refine xp_skip (i := 23) rfl (by kernel_rfl) (by kernel_rfl) rfl rfl rfl ?_
                      refine xp_skip (i := 24) rfl (by kernel_rfl) (by kernel_rfl) rfl rfl rfl ?_
                      refine xp_skip (i := 25) rfl (by kernel_rfl) (by kernel_rfl) rfl rfl rfl ?_
                      refine xp_skip (i := 26) rfl (by kernel_rfl) (by kernel_rfl) rfl rfl rfl ?_
                      refine xp_skip (i := 27) rfl (by kernel_rfl) (by kernel_rfl) rfl rfl rfl ?_
                      refine xp_skip (i := 28) rfl (by kernel_rfl) (by kernel_rfl) rfl rfl rfl ?_
                      refine xp_skip (i := 29) rfl (by kernel_rfl) (by kernel_rfl) rfl rfl rfl ?_
                      refine xp_skip (i := 30) rfl (by kernel_rfl) (by kernel_rfl) rfl rfl rfl ?_
                      refine xp_skip (i := 31) rfl (by kernel_rfl) (by kernel_rfl) rfl rfl rfl ?_
                      refine xp_pure (i := 32) rfl (by kernel_rfl) (by kernel_rfl) rfl rfl rfl (pv_pick_f (v := .bool _) rfl rfl rfl) ?_
                      refine xp_pure (i := 33) rfl (by kernel_rfl) (by kernel_rfl) rfl rfl rfl (pv_pick_f (v := .bool _) rfl rfl rfl) ?_
                      refine xp_done (by kernel_rfl) ?_
                      refine xthen_normal ?_
                      refine xc_cond_f rfl ?_
                      refine xc_skip ?_
                      refine xblock_normal ?_
                      refine xthen_normal ?_
                      refine xc_region ?_
                      refine xl_pure rfl rfl rfl (pv_move (v := .int _ _) rfl rfl) ?_
                      refine xl_pure rfl rfl rfl (pv_add rfl rfl rfl (fit_i64 (by omega))) ?_
                      refine xl_pure rfl rfl rfl (pv_assign (v := .int _ _) rfl rfl) ?_
                      refine xl_nil ?_
                      refine xthen_normal ?_
                      first
                        | exact ⟨j + 1, ⟨rfl, rfl, rfl, rfl, trivial⟩, ⟨by (try simp only); omega, mp_next2 hmp hi12_5 hi12_13 (fun h => absurd h (by omega)), rfl, hX⟩, by (try simp only); omega⟩
                        | exact ⟨j + 1, ⟨rfl, rfl, rfl, rfl, trivial⟩, ⟨by (try simp only); omega, mp_next2 hmp hi12_5 hi12_13 (fun _ => by first | exact h12_31 | (have q := h12_31; have e : ((j : Int) - 1).toNat = j - 1 := (by omega); rw [e] at q; exact q)), rfl, hX⟩, by (try simp only); omega⟩
                  · skip
                    refine xp_pure (i := 14) rfl (by kernel_rfl) (by kernel_rfl) rfl rfl rfl (pv_not rfl rfl) ?_
                    refine xp_pure (i := 15) rfl (by kernel_rfl) (by kernel_rfl) rfl rfl rfl (pv_pick_f (v := .bool _) rfl rfl rfl) ?_
                    refine xp_pure (i := 16) rfl (by kernel_rfl) (by kernel_rfl) rfl rfl rfl (pv_move (v := .bool _) rfl rfl) ?_
                    refine xp_skip (i := 17) rfl (by kernel_rfl) (by kernel_rfl) rfl rfl rfl ?_
                    refine xp_skip (i := 18) rfl (by kernel_rfl) (by kernel_rfl) rfl rfl rfl ?_
                    refine xp_skip (i := 19) rfl (by kernel_rfl) (by kernel_rfl) rfl rfl rfl ?_
                    refine xp_skip (i := 20) rfl (by kernel_rfl) (by kernel_rfl) rfl rfl rfl ?_
                    refine xp_skip (i := 21) rfl (by kernel_rfl) (by kernel_rfl) rfl rfl rfl ?_
                    refine xp_skip (i := 22) rfl (by kernel_rfl) (by kernel_rfl) rfl rfl rfl ?_
                    refine xp_skip (i := 23) rfl (by kernel_rfl) (by kernel_rfl) rfl rfl rfl ?_
                    refine xp_skip (i := 24) rfl (by kernel_rfl) (by kernel_rfl) rfl rfl rfl ?_
                    refine xp_skip (i := 25) rfl (by kernel_rfl) (by kernel_rfl) rfl rfl rfl ?_
                    refine xp_skip (i := 26) rfl (by kernel_rfl) (by kernel_rfl) rfl rfl rfl ?_
                    refine xp_skip (i := 27) rfl (by kernel_rfl) (by kernel_rfl) rfl rfl rfl ?_
                    refine xp_skip (i := 28) rfl (by kernel_rfl) (by kernel_rfl) rfl rfl rfl ?_
                    refine xp_skip (i := 29) rfl (by kernel_rfl) (by kernel_rfl) rfl rfl rfl ?_
                    refine xp_skip (i := 30) rfl (by kernel_rfl) (by kernel_rfl) rfl rfl rfl ?_
                    refine xp_skip (i := 31) rfl (by kernel_rfl) (by kernel_rfl) rfl rfl rfl ?_
                    refine xp_skip (i := 32) rfl (by kernel_rfl) (by kernel_rfl) rfl rfl rfl ?_
                    refine xp_pure (i := 33) rfl (by kernel_rfl) (by kernel_rfl) rfl rfl rfl (pv_pick_t (v := .bool _) rfl rfl rfl) ?_
                    refine xp_done (by kernel_rfl) ?_
                    refine xthen_normal ?_
                    refine xc_cond_t rfl ?_
                    refine xc_seq ?_
                    refine xc_region ?_
                    refine xl_pure rfl rfl rfl (pv_assign (v := .slice _ _ _) rfl rfl) ?_
                    refine xl_pure rfl rfl rfl (pv_assign (v := .int _ _) rfl rfl) ?_
                    refine xl_nil ?_
                    refine xthen_normal ?_
                    refine xc_ret ?_
                    refine xblock_ret ?_
                    refine xthen_ret ?_
                    refine xthen_ret ?_
                    refine xblock_ret ?_
                    refine xblock_ret ?_
                    refine xthen_ret ?_
                    refine xthen_ret ?_
                    refine xblock_ret ?_
                    refine xthen_ret ?_
                    refine fin_ret (res2 (v := .slice _ _ _) (x := .int _ _) rfl rfl rfl) ?_
                    exact ⟨1, .inr ⟨rfl, bad_mem (k := k) (j := j) (by omega) (by omega) (fun h => by first | exact hi12_5 h.1.1 | exact hi12_13 h.1.2 | (have q1 := h.2 (by omega); have q2 := h12_31; have e : ((j : Int) - 1).toNat = j - 1 := (by omega); rw [e] at q2; exact absurd q2 (Int.not_le.2 q1)))⟩, .inr ⟨by decide, rfl⟩, rfl⟩
                · skip
                  refine xp_pure (i := 6) rfl (by kernel_rfl) (by kernel_rfl) rfl rfl rfl (pv_not rfl rfl) ?_
                  refine xp_pure (i := 7) rfl (by kernel_rfl) (by kernel_rfl) rfl rfl rfl (pv_move (v := .bool _) rfl rfl) ?_
                  refine xp_skip (i := 8) rfl (by kernel_rfl) (by kernel_rfl) rfl rfl rfl ?_
                  refine xp_skip (i := 9) rfl (by kernel_rfl) (by kernel_rfl) rfl rfl rfl ?_
                  refine xp_skip (i := 10) rfl (by kernel_rfl) (by kernel_rfl) rfl rfl rfl ?_
                  refine xp_skip (i := 11) rfl (by kernel_rfl) (by kernel_rfl) rfl rfl rfl ?_
                  refine xp_skip (i := 12) rfl (by kernel_rfl) (by kernel_rfl) rfl rfl rfl ?_
                  refine xp_skip (i := 13) rfl (by kernel_rfl) (by kernel_rfl) rfl rfl rfl ?_
                  refine xp_skip (i := 14) rfl (by kernel_rfl) (by kernel_rfl) rfl rfl rfl ?_
                  refine xp_pure (i := 15) rfl (by kernel_rfl) (by kernel_rfl) rfl rfl rfl (pv_pick_t (v := .bool _) rfl rfl rfl) ?_
                  refine xp_pure (i := 16) rfl (by kernel_rfl) (by kernel_rfl) rfl rfl rfl (pv_move (v := .bool _) rfl rfl) ?_
                  refine xp_skip (i := 17) rfl (by kernel_rfl) (by kernel_rfl) rfl rfl rfl ?_
                  refine xp_skip (i := 18) rfl (by kernel_rfl) (by kernel_rfl) rfl rfl rfl ?_
                  refine xp_skip (i := 19) rfl (by kernel_rfl) (by kernel_rfl) rfl rfl rfl ?_
                  refine xp_skip (i := 20) rfl (by kernel_rfl) (by kernel_rfl) rfl rfl rfl ?_
                  refine xp_skip (i := 21) rfl (by kernel_rfl) (by kernel_rfl) rfl rfl rfl ?_
                  refine xp_skip (i := 22) rfl (by kernel_rfl) (by kernel_rfl) rfl rfl rfl ?_
                  refine xp_skip (i := 23) rfl (by kernel_rfl) (by kernel_rfl) rfl rfl rfl ?_
                  refine xp_skip (i := 24) rfl (by kernel_rfl) (by kernel_rfl) rfl rfl rfl ?_
                  refine xp_skip (i := 25) rfl (by kernel_rfl) (by kernel_rfl) rfl rfl rfl ?_
                  refine xp_skip (i := 26) rfl (by kernel_rfl) (by kernel_rfl) rfl rfl rfl ?_
                  refine xp_skip (i := 27) rfl (by kernel_rfl) (by kernel_rfl) rfl rfl rfl ?_
                  refine xp_skip (i := 28) rfl (by kernel_rfl) (by kernel_rfl) rfl rfl rfl ?_
                  refine xp_skip (i := 29) rfl (by kernel_rfl) (by kernel_rfl) rfl rfl rfl ?_
                  refine xp_skip (i := 30) rfl (by kernel_rfl) (by kernel_rfl) rfl rfl rfl ?_
                  refine xp_skip (i := 31) rfl (by kernel_rfl) (by kernel_rfl) rfl rfl rfl ?_
                  refine xp_skip (i := 32) rfl (by kernel_rfl) (by kernel_rfl) rfl rfl rfl ?_
                  refine xp_pure (i := 33) rfl (by kernel_rfl) (by kernel_rfl) rfl rfl rfl (pv_pick_t (v := .bool _) rfl rfl rfl) ?_
                  refine xp_done (by kernel_rfl) ?_
                  refine xthen_normal ?_
                  refine xc_cond_t rfl ?_
                  refine xc_seq ?_
                  refine xc_region ?_
                  refine xl_pure rfl rfl rfl (pv_assign (v := .slice _ _ _) rfl rfl) ?_
                  refine xl_pure rfl rfl rfl (pv_assign (v := .int _ _) rfl rfl) ?_
                  refine xl_nil ?_
                  refine xthen_normal ?_
                  refine xc_ret ?_
                  refine xblock_ret ?_
                  refine xthen_ret ?_
                  refine xthen_ret ?_
                  refine xblock_ret ?_
                  refine xblock_ret ?_
                  refine xthen_ret ?_
                  refine xthen_ret ?_
                  refine xblock_ret ?_
                  refine xthen_ret ?_
                  refine fin_ret (res2 (v := .slice _ _ _) (x := .int _ _) rfl rfl rfl) ?_
                  exact ⟨1, .inr ⟨rfl, bad_mem (k := k) (j := j) (by omega) (by omega) (fun h => by first | exact hi12_5 h.1.1 | exact hi12_13 h.1.2 | (have q1 := h.2 (by omega); have q2 := h12_31; have e : ((j : Int) - 1).toNat = j - 1 := (by omega); rw [e] at q2; exact absurd q2 (Int.not_le.2 q1)))⟩, .inr ⟨by decide, rfl⟩, rfl⟩
              · skip
                refine xl_nil ?_
                refine xthen_normal ?_
                refine xc_cond_f rfl ?_
                refine xc_exit ?_
                refine xthen_exit ?_
                refine xthen_exit ?_
                refine xblock_same ?_
                refine xblock_normal ?_
                refine xthen_normal ?_
                have hok : OkG D k := by obtain rfl : j = (gD D k).2.length := (by omega); have hmok := mp_ok hjr.1 hmp; exact ⟨h7_7, hmok, by rw [← led_same (fun r hr => (hmok.ok r hr).2)]; exact hl7_10⟩
                refine xc_region ?_
                refine xl_pure rfl rfl rfl (pv_move (v := .int _ _) rfl rfl) ?_
                refine xl_pure rfl rfl rfl (pv_add rfl rfl rfl (fit_i64 (by omega))) ?_
                refine xl_pure rfl rfl rfl (pv_assign (v := .int _ _) rfl rfl) ?_
                refine xl_nil ?_
                refine xthen_normal ?_
                exact ⟨k + 1, ⟨rfl, rfl, trivial⟩, ⟨by (try simp only); omega, all_next hall hok, rfl, hX⟩, by (try simp only); omega⟩
        · skip
          refine xl_pure rfl rfl rfl (pv_move (v := .bool _) rfl rfl) ?_
          refine xl_skip rfl rfl rfl ?_
          refine xl_skip rfl rfl rfl ?_
          refine xl_skip rfl rfl rfl ?_
          refine xl_pure rfl rfl rfl (pv_pick_t (v := .bool _) rfl rfl rfl) ?_
          refine xl_nil ?_
          refine xthen_normal ?_
          refine xc_cond_t rfl ?_
          refine xc_seq ?_
          refine xc_region ?_
          refine xl_pure rfl rfl rfl (pv_assign (v := .slice _ _ _) rfl rfl) ?_
          refine xl_pure rfl rfl rfl (pv_assign (v := .int _ _) rfl rfl) ?_
          refine xl_nil ?_
          refine xthen_normal ?_
          refine xc_ret ?_
          refine xthen_ret ?_
          refine xblock_ret ?_
          refine xthen_ret ?_
          refine xthen_ret ?_
          refine xblock_ret ?_
          refine xthen_ret ?_
          refine fin_ret (res2 (v := .slice _ _ _) (x := .int _ _) rfl rfl rfl) ?_
          exact ⟨1, .inr ⟨rfl, not_all (k := k) (by omega) (fun h => by first | exact h7_7 h.1 | (have h5 := okg_led h; rw [hl7_10] at h5; cases h5))⟩, .inr ⟨by decide, rfl⟩, rfl⟩
      · skip
        refine xl_nil ?_
        refine xthen_normal ?_
        refine xc_cond_f rfl ?_
        refine xc_exit ?_
        refine xthen_exit ?_
        refine xthen_exit ?_
        refine xblock_same ?_
        refine xthen_normal ?_
        refine xc_seq ?_
        refine xc_region ?_
        refine xl_pure rfl rfl rfl (pv_move (v := .slice _ _ _) rfl rfl) ?_
        refine xl_pure rfl rfl rfl (pv_assign (v := .slice _ _ _) rfl rfl) ?_
        refine xl_pure rfl rfl rfl (pv_assign (v := .int _ _) rfl rfl) ?_
        refine xl_nil ?_
        refine xthen_normal ?_
        refine xc_ret ?_
        refine fin_ret (res2 (v := .slice _ _ _) (x := .int _ _) rfl rfl rfl) ?_
        obtain rfl : k = D.length := by omega
        exact ⟨0, .inl ⟨rfl, by omega, hall⟩, .inl ⟨rfl, rfl⟩, rfl⟩

theorem rFew {O : Outer} {H : Heap} {al : Option Addr} {cl B0 : Nat} {D : List (Int × List (List Int))} (hD : DK H B0 al D) :
    FnC Try.prog 9 #[.slice al D.length cl] O H (fun v H' => ∃ r, v = .bool r ∧ (r = true → D.length ≤ 8 ∧ ∀ k, k < D.length → (gD D k).2.length ≤ 20) ∧ H = H') := by
  refine fn_enter (A := [.slice al D.length cl]) Try.func9 rfl rfl ?_
  have hX := Ext.refl H
  refine xc_seq ?_
  refine xc_region ?_
  refine xl_pure rfl rfl rfl (pv_assign (v := .bool _) rfl rfl) ?_
  refine xl_nil ?_
  refine xthen_normal ?_
  refine xc_seq ?_
  refine xc_seq ?_
  refine xc_region ?_
  refine xl_pure rfl rfl rfl (pv_assign (v := .int _ _) rfl rfl) ?_
  refine xl_nil ?_
  refine xthen_normal ?_
  refine xc_block ?_
  refine xc_loop (τ := Nat) (fun t => [(0, .slice al D.length cl), (3, .int .i64 (t : Nat))]) (fun t H' => (t ≤ D.length) ∧ (∀ j, j < t → (gD D j).2.length ≤ 20) ∧ (H = H') ∧ (Ext H H')) (fun t H' => D.length - t) 0 ?_ ?_ ?_
  · exact ⟨rfl, rfl, trivial⟩
  · skip
    exact ⟨Nat.zero_le _, fun j h => absurd h (by omega), rfl, hX⟩
  · intro σ
    clear hX
    rintro k Hl2 ⟨hk, hall, heq, hX⟩
    replace hk : k ≤ D.length := hk
    replace hall : ∀ j, j < k → (gD D j).2.length ≤ 20 := hall
    replace heq : H = Hl2 := heq
    replace hX : Ext H Hl2 := hX
    subst heq
    obtain ⟨dg, do_, hde⟩ := (hD.ext hX).at'
    show XC _ _ _ (upds σ [(0, .slice al D.length cl), (3, .int .i64 (k : Nat))]) _
    refine xc_seq ?_
    refine xc_seq ?_
    refine xc_region ?_
    refine xl_pure rfl rfl rfl (pv_move (v := .int _ _) rfl rfl) ?_
    refine xl_pure rfl rfl rfl (pv_move (v := .slice _ _ _) rfl rfl) ?_
    refine xl_pure rfl rfl rfl (pv_len_l rfl rfl) ?_
    refine xl_dec rfl rfl rfl (pv_lss rfl rfl rfl) (fun h2_3 => ?_) (fun h2_3 => ?_)
    · skip
      refine xl_pure rfl rfl rfl (pv_move (v := .bool _) rfl rfl) ?_
      refine xl_pure rfl rfl rfl (pv_move (v := .int _ _) rfl rfl) ?_
      refine xl_dec rfl rfl rfl (pv_lss rfl rfl rfl) (fun h2_6 => ?_) (fun h2_6 => ?_)
      · skip
        refine xl_pure rfl rfl rfl (pv_pick_t (v := .bool _) rfl rfl rfl) ?_
        refine xl_nil ?_
        refine xthen_normal ?_
        refine xc_cond_t rfl ?_
        refine xc_skip ?_
        refine xthen_normal ?_
        refine xc_seq ?_
        refine xc_block ?_
        refine xc_seq ?_
        obtain ⟨aj, cj, hld, hjr, hl1, hl2⟩ := ld_d (hde (by omega)).2 (show k < D.length by omega)
        refine xc_region ?_
        refine xl_pure rfl rfl rfl (pv_move (v := .slice _ _ _) rfl rfl) ?_
        refine xl_pure rfl rfl rfl (pv_move (v := .int _ _) rfl rfl) ?_
        refine xl_pure rfl rfl rfl (pv_indexAddr_l rfl (sl_eq (hde (by omega)).1) rfl (by omega)) ?_
        refine xl_pure rfl rfl rfl (pv_fieldAddr rfl rfl) ?_
        refine xl_light rfl rfl rfl (lv_load (v := .slice _ _ _) rfl rfl (by exact hl2)) ?_
        refine xl_pure rfl rfl rfl (pv_len_l rfl rfl) ?_
        refine xl_dec rfl rfl rfl (pv_gtr rfl rfl rfl) (fun h4_6 => ?_) (fun h4_6 => ?_)
        · skip
          refine xl_nil ?_
          refine xthen_normal ?_
          refine xc_cond_t rfl ?_
          refine xc_seq ?_
          refine xc_region ?_
          refine xl_pure rfl rfl rfl (pv_assign (v := .bool _) rfl rfl) ?_
          refine xl_nil ?_
          refine xthen_normal ?_
          refine xc_ret ?_
          refine xblock_ret ?_
          refine xthen_ret ?_
          refine xthen_ret ?_
          refine xblock_ret ?_
          refine xthen_ret ?_
          refine fin_ret (res1 (v := .bool _) rfl rfl) ?_
          exact ⟨false, rfl, fun h => (by cases h), rfl⟩
        · skip
          refine xl_nil ?_
          refine xthen_normal ?_
          refine xc_cond_f rfl ?_
          refine xc_skip ?_
          refine xblock_normal ?_
          refine xthen_normal ?_
          refine xc_region ?_
          refine xl_pure rfl rfl rfl (pv_move (v := .int _ _) rfl rfl) ?_
          refine xl_pure rfl rfl rfl (pv_add rfl rfl rfl (fit_i64 (by omega))) ?_
          refine xl_pure rfl rfl rfl (pv_assign (v := .int _ _) rfl rfl) ?_
          refine xl_nil ?_
          refine xthen_normal ?_
          exact ⟨k + 1, ⟨rfl, rfl, trivial⟩, ⟨by (try simp only); omega, all_next hall (by omega), rfl, hX⟩, by (try simp only); omega⟩
      · skip
        refine xl_pure rfl rfl rfl (pv_pick_t (v := .bool _) rfl rfl rfl) ?_
        refine xl_nil ?_
        refine xthen_normal ?_
        refine xc_cond_f rfl ?_
        refine xc_exit ?_
        refine xthen_exit ?_
        refine xthen_exit ?_
        refine xblock_same ?_
        refine xthen_normal ?_
        refine xc_seq ?_
        refine xc_region ?_
        refine xl_pure rfl rfl rfl (pv_move (v := .slice _ _ _) rfl rfl) ?_
        refine xl_pure rfl rfl rfl (pv_len_l rfl rfl) ?_
        refine xl_dec rfl rfl rfl (pv_leq rfl rfl rfl) (fun h6_2 => ?_) (fun h6_2 => ?_)
        · skip
          refine xl_pure rfl rfl rfl (pv_assign (v := .bool _) rfl rfl) ?_
          refine xl_nil ?_
          refine xthen_normal ?_
          refine xc_ret ?_
          refine fin_ret (res1 (v := .bool _) rfl rfl) ?_
          first
            | exact ⟨true, rfl, fun _ => ⟨by omega, fun j hj => hall j (by omega)⟩, rfl⟩
            | exact ⟨false, rfl, fun h => (by cases h), rfl⟩
            | exact ⟨_, rfl, fun h => by have h2 := of_decide_eq_true h; exact ⟨by omega, fun j hj => hall j (by omega)⟩, rfl⟩
        · skip
          refine xl_pure rfl rfl rfl (pv_assign (v := .bool _) rfl rfl) ?_
          refine xl_nil ?_
          refine xthen_normal ?_
          refine xc_ret ?_
          refine fin_ret (res1 (v := .bool _) rfl rfl) ?_
          first
            | exact ⟨true, rfl, fun _ => ⟨by omega, fun j hj => hall j (by omega)⟩, rfl⟩
            | exact ⟨false, rfl, fun h => (by cases h), rfl⟩
            | exact ⟨_, rfl, fun h => by have h2 := of_decide_eq_true h; exact ⟨by omega, fun j hj => hall j (by omega)⟩, rfl⟩
    · skip
      refine xl_pure rfl rfl rfl (pv_move (v := .bool _) rfl rfl) ?_
      refine xl_skip rfl rfl rfl ?_
      refine xl_skip rfl rfl rfl ?_
      refine xl_pure rfl rfl rfl (pv_pick_f (v := .bool _) rfl rfl rfl) ?_
      refine xl_nil ?_
      refine xthen_normal ?_
      refine xc_cond_f rfl ?_
      refine xc_exit ?_
      refine xthen_exit ?_
      refine xthen_exit ?_
      refine xblock_same ?_
      refine xthen_normal ?_
      refine xc_seq ?_
      refine xc_region ?_
      refine xl_pure rfl rfl rfl (pv_move (v := .slice _ _ _) rfl rfl) ?_
      refine xl_pure rfl rfl rfl (pv_len_l rfl rfl) ?_
      refine xl_dec rfl rfl rfl (pv_leq rfl rfl rfl) (fun h6_2 => ?_) (fun h6_2 => ?_)
      · skip
        refine xl_pure rfl rfl rfl (pv_assign (v := .bool _) rfl rfl) ?_
        refine xl_nil ?_
        refine xthen_normal ?_
        refine xc_ret ?_
        refine fin_ret (res1 (v := .bool _) rfl rfl) ?_
        first
          | exact ⟨true, rfl, fun _ => ⟨by omega, fun j hj => hall j (by omega)⟩, rfl⟩
          | exact ⟨false, rfl, fun h => (by cases h), rfl⟩
          | exact ⟨_, rfl, fun h => by have h2 := of_decide_eq_true h; exact ⟨by omega, fun j hj => hall j (by omega)⟩, rfl⟩
      · skip
        refine xl_pure rfl rfl rfl (pv_assign (v := .bool _) rfl rfl) ?_
        refine xl_nil ?_
        refine xthen_normal ?_
        refine xc_ret ?_
        refine fin_ret (res1 (v := .bool _) rfl rfl) ?_
        first
          | exact ⟨true, rfl, fun _ => ⟨by omega, fun j hj => hall j (by omega)⟩, rfl⟩
          | exact ⟨false, rfl, fun h => (by cases h), rfl⟩
          | exact ⟨_, rfl, fun h => by have h2 := of_decide_eq_true h; exact ⟨by omega, fun j hj => hall j (by omega)⟩, rfl⟩

theorem rFind {O : Outer} {H : Heap} {a : Option Addr} {c B0 : Nat} {X : List (List (List Int))} (hD : DK H B0 a (tg X)) (hG : GOk X) (id : Int) :
    FnC Try.prog 49 #[.slice a X.length c, .int .i64 id] O H (fun v H' => (inG X id ∧ v = .int .i64 (id - 101) ∨ ¬ inG X id ∧ v = .int .i64 (-1)) ∧ H = H') := by
  have h4 := hG.len
  refine fn_enter (A := [.slice a X.length c, .int .i64 id]) Try.func49 rfl rfl ?_
  have hX := Ext.refl H
  refine xc_seq ?_
  refine xc_region ?_
  refine xl_pure rfl rfl rfl (pv_assign (v := .int _ _) rfl rfl) ?_
  refine xl_nil ?_
  refine xthen_normal ?_
  refine xc_seq ?_
  refine xc_seq ?_
  refine xc_region ?_
  refine xl_pure rfl rfl rfl (pv_assign (v := .int _ _) rfl rfl) ?_
  refine xl_nil ?_
  refine xthen_normal ?_
  refine xc_block ?_
  refine xc_loop (τ := Nat) (fun t => [(0, .slice a X.length c), (1, .int .i64 id), (5, .int .i64 (t : Nat))]) (fun t H' => (t ≤ X.length) ∧ (∀ j : Nat, j < t → (101 : Int) + (j : Int) ≠ id) ∧ (H = H') ∧ (Ext H H')) (fun t H' => X.length - t) 0 ?_ ?_ ?_
  · exact ⟨rfl, rfl, rfl, trivial⟩
  · skip
    exact ⟨Nat.zero_le _, fun j h => absurd h (by omega), rfl, hX⟩
  · intro σ
    clear hX
    rintro k Hl2 ⟨hk, hno, heq, hX⟩
    replace hk : k ≤ X.length := hk
    replace hno : ∀ j : Nat, j < k → (101 : Int) + (j : Int) ≠ id := hno
    replace heq : H = Hl2 := heq
    replace hX : Ext H Hl2 := hX
    subst heq
    obtain ⟨dg, do_, hde⟩ := (hD.ext hX).at'
    show XC _ _ _ (upds σ [(0, .slice a X.length c), (1, .int .i64 id), (5, .int .i64 (k : Nat))]) _
    refine xc_seq ?_
    refine xc_seq ?_
    refine xc_region ?_
    refine xl_pure rfl rfl rfl (pv_move (v := .int _ _) rfl rfl) ?_
    refine xl_pure rfl rfl rfl (pv_move (v := .slice _ _ _) rfl rfl) ?_
    refine xl_pure rfl rfl rfl (pv_len_l rfl rfl) ?_
    refine xl_dec rfl rfl rfl (pv_lss rfl rfl rfl) (fun h2_3 => ?_) (fun h2_3 => ?_)
    · skip
      refine xl_nil ?_
      refine xthen_normal ?_
      refine xc_cond_t rfl ?_
      refine xc_skip ?_
      refine xthen_normal ?_
      refine xc_seq ?_
      refine xc_block ?_
      refine xc_seq ?_
      obtain ⟨aj, cj, hld, hjr, hl1, hl2⟩ := ld_d (hde (by rw [tg_len]; omega)).2 (show k < (tg X).length by rw [tg_len]; omega)
      rw [tg_get (by omega)] at hld hl1 hl2 hjr
      dsimp only at hjr hl1 hl2
      refine xc_region ?_
      refine xl_pure rfl rfl rfl (pv_move (v := .slice _ _ _) rfl rfl) ?_
      refine xl_pure rfl rfl rfl (pv_move (v := .int _ _) rfl rfl) ?_
      refine xl_pure rfl rfl rfl (pv_indexAddr_l rfl (sl_eq (hde (by rw [tg_len]; omega)).1) rfl (by omega)) ?_
      refine xl_pure rfl rfl rfl (pv_fieldAddr rfl rfl) ?_
      refine xl_light rfl rfl rfl (lv_load (v := .int _ _) rfl rfl (by exact hl1)) ?_
      refine xl_pure rfl rfl rfl (pv_move (v := .int _ _) rfl rfl) ?_
      refine xl_dec rfl rfl rfl (pv_eql rfl rfl rfl) (fun h4_6 => ?_) (fun h4_6 => ?_)
      · skip
        refine xl_nil ?_
        refine xthen_normal ?_
        refine xc_cond_t rfl ?_
        refine xc_seq ?_
        refine xc_region ?_
        refine xl_pure rfl rfl rfl (pv_move (v := .int _ _) rfl rfl) ?_
        refine xl_pure rfl rfl rfl (pv_assign (v := .int _ _) rfl rfl) ?_
        refine xl_nil ?_
        refine xthen_normal ?_
        refine xc_ret ?_
        refine xblock_ret ?_
        refine xthen_ret ?_
        refine xthen_ret ?_
        refine xblock_ret ?_
        refine xthen_ret ?_
        refine fin_ret (res1 (v := .int _ _) rfl rfl) ?_
        exact ⟨.inl ⟨by unfold inG; omega, iv (by omega)⟩, rfl⟩
      · skip
        refine xl_nil ?_
        refine xthen_normal ?_
        refine xc_cond_f rfl ?_
        refine xc_skip ?_
        refine xblock_normal ?_
        refine xthen_normal ?_
        refine xc_region ?_
        refine xl_pure rfl rfl rfl (pv_move (v := .int _ _) rfl rfl) ?_
        refine xl_pure rfl rfl rfl (pv_add rfl rfl rfl (fit_i64 (by omega))) ?_
        refine xl_pure rfl rfl rfl (pv_assign (v := .int _ _) rfl rfl) ?_
        refine xl_nil ?_
        refine xthen_normal ?_
        exact ⟨k + 1, ⟨rfl, rfl, rfl, trivial⟩, ⟨by (try simp only); omega, all_next hno h4_6, rfl, hX⟩, by (try simp only); omega⟩
    · skip
      refine xl_nil ?_
      refine xthen_normal ?_
      refine xc_cond_f rfl ?_
      refine xc_exit ?_
      refine xthen_exit ?_
      refine xthen_exit ?_
      refine xblock_same ?_
      refine xthen_normal ?_
      refine xc_seq ?_
      refine xc_region ?_
      refine xl_pure rfl rfl rfl (pv_assign (v := .int _ _) rfl rfl) ?_
      refine xl_nil ?_
      refine xthen_normal ?_
      refine xc_ret ?_
      refine fin_ret (res1 (v := .int _ _) rfl rfl) ?_
      exact ⟨.inr ⟨fun h => by unfold inG at h; exact hno (id - 101).toNat (by omega) (by omega), rfl⟩, rfl⟩

theorem rMembers {O : Outer} {H : Heap} {a : Option Addr} {c B0 : Nat} {X : List (List (List Int))} (hD : DK H B0 a (tg X)) (hG : GOk X) (id : Int) :
    FnC Try.prog 39 #[.slice a X.length c, .int .i64 id] O H (fun v H' => (inG X id ∧ (∃ a' c', v = .tuple #[.slice a' (gM X (ix id)).length c', .int .i64 0] ∧ RowsB H' B0 a' (gM X (ix id))) ∨ ¬ inG X id ∧ v = .tuple #[.slice none 0 0, .int .i64 3]) ∧ H = H') := by
  refine fn_enter (A := [.slice a X.length c, .int .i64 id]) Try.func39 rfl rfl ?_
  have hX := Ext.refl H
  refine xc_seq ?_
  refine xc_region ?_
  refine xl_pure rfl rfl rfl (pv_assign (v := .slice _ _ _) rfl rfl) ?_
  refine xl_pure rfl rfl rfl (pv_assign (v := .int _ _) rfl rfl) ?_
  refine xl_nil ?_
  refine xthen_normal ?_
  refine xc_seq ?_
  refine xc_region ?_
  refine xl_pure rfl rfl rfl (pv_move (v := .slice _ _ _) rfl rfl) ?_
  refine xl_pure rfl rfl rfl (pv_move (v := .int _ _) rfl rfl) ?_
  refine xl_heavy rfl rfl rfl (hv_call (g := 49) rfl rfl (rFind (hD.ext hX) hG id) rfl) ?_
  rintro v1_2 H1_2 ⟨hv1_2, rfl⟩
  rcases hv1_2 with ⟨hi1_2, rfl⟩ | ⟨hi1_2, rfl⟩
  · skip
    refine xl_pure rfl rfl rfl (pv_assign (v := .int _ _) rfl rfl) ?_
    refine xl_nil ?_
    refine xthen_normal ?_
    refine xc_seq ?_
    refine xc_seq ?_
    refine xc_region ?_
    refine xl_pure rfl rfl rfl (pv_move (v := .int _ _) rfl rfl) ?_
    refine xl_dec rfl rfl rfl (pv_lss rfl rfl rfl) (fun h2_1 => ?_) (fun h2_1 => ?_)
    · first
      | (exfalso; omega)
      |  (skip
          refine xl_nil ?_
          refine xthen_normal ?_
          refine xc_cond_t rfl ?_
          refine xc_seq ?_
          refine xc_region ?_
          refine xl_pure rfl rfl rfl (pv_assign (v := .slice _ _ _) rfl rfl) ?_
          refine xl_pure rfl rfl rfl (pv_assign (v := .int _ _) rfl rfl) ?_
          refine xl_nil ?_
          refine xthen_normal ?_
          refine xc_ret ?_
          refine xthen_ret ?_
          refine fin_ret (res2 (v := .slice _ _ _) (x := .int _ _) rfl rfl rfl) ?_
          first
            | exact ⟨.inr ⟨hi1_2, rfl⟩, rfl⟩
            | (exfalso; unfold inG at hi1_2; omega))
    · first
      | (exfalso; omega)
      |  (skip
          refine xl_nil ?_
          refine xthen_normal ?_
          refine xc_cond_f rfl ?_
          refine xc_skip ?_
          refine xthen_normal ?_
          refine xc_seq ?_
          obtain ⟨hix, hixv⟩ := inG_ix hi1_2
          obtain ⟨hmk, hlk⟩ := hG.at hix
          have hl16 := mok_len hmk
          obtain ⟨dg, do_, hde⟩ := (hD.ext hX).at'
          obtain ⟨aj, cj, hld, hjr, hl1, hl2⟩ := ld_d (hde (by rw [tg_len]; omega)).2 (show ix id < (tg X).length by rw [tg_len]; omega)
          rw [tg_get (by omega)] at hld hl1 hl2 hjr
          dsimp only at hjr hl1 hl2
          refine xc_region ?_
          refine xl_pure rfl rfl rfl (pv_move (v := .slice _ _ _) rfl rfl) ?_
          refine xl_pure rfl rfl rfl (pv_move (v := .int _ _) rfl rfl) ?_
          refine xl_pure rfl rfl rfl (pv_indexAddr_l rfl (sl_eq (hde (by rw [tg_len]; omega)).1) rfl (by omega)) ?_
          refine xl_pure rfl rfl rfl (pv_fieldAddr rfl rfl) ?_
          refine xl_light rfl rfl rfl (lv_load (v := .slice _ _ _) rfl rfl (by exact hl2)) ?_
          refine xl_pure rfl rfl rfl (pv_assign (v := .slice _ _ _) rfl rfl) ?_
          refine xl_pure rfl rfl rfl (pv_assign (v := .int _ _) rfl rfl) ?_
          refine xl_nil ?_
          refine xthen_normal ?_
          refine xc_ret ?_
          refine fin_ret (res2 (v := .slice _ _ _) (x := .int _ _) rfl rfl rfl) ?_
          first
            | exact ⟨.inl ⟨hi1_2, _, _, rfl, hjr⟩, rfl⟩)
  · skip
    refine xl_pure rfl rfl rfl (pv_assign (v := .int _ _) rfl rfl) ?_
    refine xl_nil ?_
    refine xthen_normal ?_
    refine xc_seq ?_
    refine xc_seq ?_
    refine xc_region ?_
    refine xl_pure rfl rfl rfl (pv_move (v := .int _ _) rfl rfl) ?_
    refine xl_dec rfl rfl rfl (pv_lss rfl rfl rfl) (fun h2_1 => ?_) (fun h2_1 => ?_)
    · first
      | (exfalso; omega)
      |  (skip
          refine xl_nil ?_
          refine xthen_normal ?_
          refine xc_cond_t rfl ?_
          refine xc_seq ?_
          refine xc_region ?_
          refine xl_pure rfl rfl rfl (pv_assign (v := .slice _ _ _) rfl rfl) ?_
          refine xl_pure rfl rfl rfl (pv_assign (v := .int _ _) rfl rfl) ?_
          refine xl_nil ?_
          refine xthen_normal ?_
          refine xc_ret ?_
          refine xthen_ret ?_
          refine fin_ret (res2 (v := .slice _ _ _) (x := .int _ _) rfl rfl rfl) ?_
          first
            | exact ⟨.inr ⟨hi1_2, rfl⟩, rfl⟩
            | (exfalso; unfold inG at hi1_2; omega))
    · exact absurd (by decide) h2_1

theorem rRoles {O : Outer} {H : Heap} {a : Option Addr} {c B0 : Nat} {X : List (List (List Int))} (hD : DK H B0 a (tg X)) (hG : GOk X) (id ch : Int) :
    FnC Try.prog 36 #[.slice a X.length c, .int .i64 id, .int .i64 ch] O H (fun v H' => v = .tuple #[.int .i64 (rolN X id ch), .int .i64 (rolE X id ch)] ∧ H = H') := by
  refine fn_enter (A := [.slice a X.length c, .int .i64 id, .int .i64 ch]) Try.func36 rfl rfl ?_
  have hX := Ext.refl H
  refine xc_seq ?_
  refine xc_region ?_
  refine xl_pure rfl rfl rfl (pv_assign (v := .int _ _) rfl rfl) ?_
  refine xl_pure rfl rfl rfl (pv_assign (v := .int _ _) rfl rfl) ?_
  refine xl_nil ?_
  refine xthen_normal ?_
  refine xc_seq ?_
  refine xc_region ?_
  refine xl_pure rfl rfl rfl (pv_move (v := .slice _ _ _) rfl rfl) ?_
  refine xl_pure rfl rfl rfl (pv_move (v := .int _ _) rfl rfl) ?_
  refine xl_heavy rfl rfl rfl (hv_call (g := 49) rfl rfl (rFind (hD.ext hX) hG id) rfl) ?_
  rintro v1_2 H1_2 ⟨hv1_2, rfl⟩
  rcases hv1_2 with ⟨hi1_2, rfl⟩ | ⟨hi1_2, rfl⟩
  · skip
    refine xl_pure rfl rfl rfl (pv_assign (v := .int _ _) rfl rfl) ?_
    refine xl_nil ?_
    refine xthen_normal ?_
    refine xc_seq ?_
    refine xc_seq ?_
    refine xc_region ?_
    refine xl_pure rfl rfl rfl (pv_move (v := .int _ _) rfl rfl) ?_
    refine xl_dec rfl rfl rfl (pv_lss rfl rfl rfl) (fun h2_1 => ?_) (fun h2_1 => ?_)
    · first
      | (exfalso; omega)
      |  (skip
          refine xl_nil ?_
          refine xthen_normal ?_
          refine xc_cond_t rfl ?_
          refine xc_seq ?_
          refine xc_region ?_
          refine xl_pure rfl rfl rfl (pv_assign (v := .int _ _) rfl rfl) ?_
          refine xl_pure rfl rfl rfl (pv_assign (v := .int _ _) rfl rfl) ?_
          refine xl_nil ?_
          refine xthen_normal ?_
          refine xc_ret ?_
          refine xthen_ret ?_
          refine fin_ret (res2 (v := .int _ _) (x := .int _ _) rfl rfl rfl) ?_
          first
            | (have e := rol_no (c := ch) hi1_2; exact ⟨by rw [e.1, e.2], rfl⟩)
            | (exfalso; unfold inG at hi1_2; omega))
    · first
      | (exfalso; omega)
      |  (skip
          refine xl_nil ?_
          refine xthen_normal ?_
          refine xc_cond_f rfl ?_
          refine xc_skip ?_
          refine xthen_normal ?_
          refine xc_seq ?_
          refine xc_seq ?_
          refine xc_region ?_
          refine xl_pure rfl rfl rfl (pv_assign (v := .int _ _) rfl rfl) ?_
          refine xl_nil ?_
          refine xthen_normal ?_
          refine xc_block ?_
          refine xc_loop (τ := Nat) (fun t => [(0, .slice a X.length c), (2, .int .i64 ch), (8, .int .i64 (id - 101)), (9, .int .i64 (t : Nat))]) (fun t H' => (t ≤ (gM X (ix id)).length) ∧ (∀ i, i < t → ow (gr (gM X (ix id)) i) ≠ ch) ∧ (H = H') ∧ (Ext H H')) (fun t H' => (gM X (ix id)).length - t) 0 ?_ ?_ ?_
          · exact ⟨rfl, rfl, rfl, rfl, trivial⟩
          · skip
            exact ⟨Nat.zero_le _, fun i h => absurd h (by omega), rfl, hX⟩
          · intro σ
            clear hX
            rintro j Hl5 ⟨hj, hno, heq, hX⟩
            replace hj : j ≤ (gM X (ix id)).length := hj
            replace hno : ∀ i, i < j → ow (gr (gM X (ix id)) i) ≠ ch := hno
            replace heq : H = Hl5 := heq
            replace hX : Ext H Hl5 := hX
            subst heq
            obtain ⟨hix, hixv⟩ := inG_ix hi1_2
            obtain ⟨hmk, hlk⟩ := hG.at hix
            have hl16 := mok_len hmk
            obtain ⟨dg, do_, hde⟩ := (hD.ext hX).at'
            obtain ⟨aj, cj, hld, hjr, hl1, hl2⟩ := ld_d (hde (by rw [tg_len]; omega)).2 (show ix id < (tg X).length by rw [tg_len]; omega)
            rw [tg_get (by omega)] at hld hl1 hl2 hjr
            dsimp only at hjr hl1 hl2
            obtain ⟨bj, oj, hje⟩ := hjr.rows.at'
            show XC _ _ _ (upds σ [(0, .slice a X.length c), (2, .int .i64 ch), (8, .int .i64 (id - 101)), (9, .int .i64 (j : Nat))]) _
            refine xc_seq ?_
            refine xc_seq ?_
            refine xc_region ?_
            refine xl_pure rfl rfl rfl (pv_move (v := .int _ _) rfl rfl) ?_
            refine xl_pure rfl rfl rfl (pv_move (v := .slice _ _ _) rfl rfl) ?_
            refine xl_pure rfl rfl rfl (pv_move (v := .int _ _) rfl rfl) ?_
            refine xl_pure rfl rfl rfl (pv_indexAddr_l rfl (sl_eq (hde (by rw [tg_len]; omega)).1) rfl (by omega)) ?_
            refine xl_pure rfl rfl rfl (pv_fieldAddr rfl rfl) ?_
            refine xl_light rfl rfl rfl (lv_load (v := .slice _ _ _) rfl rfl (by exact hl2)) ?_
            refine xl_pure rfl rfl rfl (pv_len_l rfl rfl) ?_
            refine xl_dec rfl rfl rfl (pv_lss rfl rfl rfl) (fun h5_7 => ?_) (fun h5_7 => ?_)
            · skip
              refine xl_nil ?_
              refine xthen_normal ?_
              refine xc_cond_t rfl ?_
              refine xc_skip ?_
              refine xthen_normal ?_
              refine xc_seq ?_
              refine xc_block ?_
              refine xc_seq ?_
              refine xc_region ?_
              refine xl_pure rfl rfl rfl (pv_move (v := .slice _ _ _) rfl rfl) ?_
              refine xl_pure rfl rfl rfl (pv_move (v := .int _ _) rfl rfl) ?_
              refine xl_pure rfl rfl rfl (pv_indexAddr_l rfl (sl_eq (hde (by rw [tg_len]; omega)).1) rfl (by omega)) ?_
              refine xl_pure rfl rfl rfl (pv_fieldAddr rfl rfl) ?_
              refine xl_light rfl rfl rfl (lv_load (v := .slice _ _ _) rfl rfl (by exact hl2)) ?_
              refine xl_pure rfl rfl rfl (pv_move (v := .int _ _) rfl rfl) ?_
              refine xl_pure rfl rfl rfl (pv_indexAddr_l rfl (sl_eq (hje (by omega)).1) rfl (by omega)) ?_
              refine xl_pure rfl rfl rfl (pv_fieldAddr rfl rfl) ?_
              refine xl_light rfl rfl rfl (lv_load (v := .int _ _) rfl rfl (by exact ld_num (j := 0) (hje (by omega)).2 hjr.1 (by omega) (by decide))) ?_
              refine xl_pure rfl rfl rfl (pv_move (v := .int _ _) rfl rfl) ?_
              refine xl_dec rfl rfl rfl (pv_eql rfl rfl rfl) (fun h7_10 => ?_) (fun h7_10 => ?_)
              · skip
                refine xl_nil ?_
                refine xthen_normal ?_
                refine xc_cond_t rfl ?_
                refine xc_seq ?_
                refine xc_region ?_
                refine xl_pure rfl rfl rfl (pv_move (v := .slice _ _ _) rfl rfl) ?_
                refine xl_pure rfl rfl rfl (pv_move (v := .int _ _) rfl rfl) ?_
                refine xl_pure rfl rfl rfl (pv_indexAddr_l rfl (sl_eq (hde (by rw [tg_len]; omega)).1) rfl (by omega)) ?_
                refine xl_pure rfl rfl rfl (pv_fieldAddr rfl rfl) ?_
                refine xl_light rfl rfl rfl (lv_load (v := .slice _ _ _) rfl rfl (by exact hl2)) ?_
                refine xl_pure rfl rfl rfl (pv_move (v := .int _ _) rfl rfl) ?_
                refine xl_pure rfl rfl rfl (pv_indexAddr_l rfl (sl_eq (hje (by omega)).1) rfl (by omega)) ?_
                refine xl_pure rfl rfl rfl (pv_fieldAddr rfl rfl) ?_
                refine xl_light rfl rfl rfl (lv_load (v := .int _ _) rfl rfl (by exact ld_num (j := 1) (hje (by omega)).2 hjr.1 (by omega) (by decide))) ?_
                refine xl_pure rfl rfl rfl (pv_assign (v := .int _ _) rfl rfl) ?_
                refine xl_pure rfl rfl rfl (pv_assign (v := .int _ _) rfl rfl) ?_
                refine xl_nil ?_
                refine xthen_normal ?_
                refine xc_ret ?_
                refine xblock_ret ?_
                refine xthen_ret ?_
                refine xthen_ret ?_
                refine xblock_ret ?_
                refine xthen_ret ?_
                refine fin_ret (res2 (v := .int _ _) (x := .int _ _) rfl rfl rfl) ?_
                have hh := has_found hmk (show j < (gM X (ix id)).length by omega) h7_10
                have e := rol_yes hi1_2 hh.1
                exact ⟨by rw [e.1, e.2]; exact tupi (by have hp : bel (tb (gM X (ix id))) [ch, 0, 0, 0] = j := hh.2; show mo _ = mo _; rw [hp]; rfl), rfl⟩
              · skip
                refine xl_nil ?_
                refine xthen_normal ?_
                refine xc_cond_f rfl ?_
                refine xc_skip ?_
                refine xblock_normal ?_
                refine xthen_normal ?_
                refine xc_region ?_
                refine xl_pure rfl rfl rfl (pv_move (v := .int _ _) rfl rfl) ?_
                refine xl_pure rfl rfl rfl (pv_add rfl rfl rfl (fit_i64 (by omega))) ?_
                refine xl_pure rfl rfl rfl (pv_assign (v := .int _ _) rfl rfl) ?_
                refine xl_nil ?_
                refine xthen_normal ?_
                exact ⟨j + 1, ⟨rfl, rfl, rfl, rfl, trivial⟩, ⟨by (try simp only); omega, all_next hno h7_10, rfl, hX⟩, by (try simp only); omega⟩
            · skip
              refine xl_nil ?_
              refine xthen_normal ?_
              refine xc_cond_f rfl ?_
              refine xc_exit ?_
              refine xthen_exit ?_
              refine xthen_exit ?_
              refine xblock_same ?_
              refine xthen_normal ?_
              refine xc_seq ?_
              refine xc_region ?_
              refine xl_pure rfl rfl rfl (pv_assign (v := .int _ _) rfl rfl) ?_
              refine xl_pure rfl rfl rfl (pv_assign (v := .int _ _) rfl rfl) ?_
              refine xl_nil ?_
              refine xthen_normal ?_
              refine xc_ret ?_
              refine fin_ret (res2 (v := .int _ _) (x := .int _ _) rfl rfl rfl) ?_
              have hh := has_none hmk (ch := ch) (fun i hi => hno i (by omega))
              have e := rol_absent hi1_2 hh
              exact ⟨by rw [e.1, e.2], rfl⟩)
  · skip
    refine xl_pure rfl rfl rfl (pv_assign (v := .int _ _) rfl rfl) ?_
    refine xl_nil ?_
    refine xthen_normal ?_
    refine xc_seq ?_
    refine xc_seq ?_
    refine xc_region ?_
    refine xl_pure rfl rfl rfl (pv_move (v := .int _ _) rfl rfl) ?_
    refine xl_dec rfl rfl rfl (pv_lss rfl rfl rfl) (fun h2_1 => ?_) (fun h2_1 => ?_)
    · first
      | (exfalso; omega)
      |  (skip
          refine xl_nil ?_
          refine xthen_normal ?_
          refine xc_cond_t rfl ?_
          refine xc_seq ?_
          refine xc_region ?_
          refine xl_pure rfl rfl rfl (pv_assign (v := .int _ _) rfl rfl) ?_
          refine xl_pure rfl rfl rfl (pv_assign (v := .int _ _) rfl rfl) ?_
          refine xl_nil ?_
          refine xthen_normal ?_
          refine xc_ret ?_
          refine xthen_ret ?_
          refine fin_ret (res2 (v := .int _ _) (x := .int _ _) rfl rfl rfl) ?_
          first
            | (have e := rol_no (c := ch) hi1_2; exact ⟨by rw [e.1, e.2], rfl⟩)
            | (exfalso; unfold inG at hi1_2; omega))
    · exact absurd (by decide) h2_1

theorem rLed2 {O : Outer} {H : Heap} {a : Option Addr} {n c : Nat} {l : List (List Int)} (hn : l.length = n) (hs : Rows H a 2 l) (hl : l.length < 1000000) :
    FnC Try.prog 30 #[.slice a n c] O H (fun v H' => v = .bool (ledD l) ∧ H = H') := by
  subst hn; exact rLed hs hl
theorem rFindIn {O : Outer} {H : Heap} {a : Option Addr} {c B0 : Nat} {X : List (List (List Int))} (hD : DK H B0 a (tg X)) (hG : GOk X) {id : Int} (hi : inG X id) :
    FnC Try.prog 49 #[.slice a X.length c, .int .i64 id] O H (fun v H' => v = .int .i64 (id - 101) ∧ H = H') :=
  (rFind hD hG id).mono fun v H' h => by
    rcases h with ⟨⟨_, h1⟩ | ⟨h0, _⟩, h2⟩
    · exact ⟨h1, h2⟩
    · exact absurd hi h0
end Go.XG
