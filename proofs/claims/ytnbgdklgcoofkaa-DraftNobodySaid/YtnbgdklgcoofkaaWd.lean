/-
  Walks of the seat's functions over the logic XG: each function, what it computes. Printed by a program out of wip/walks.py.
-/
import Derived.Test.YtnbgdklgcoofkaaI
import Derived.Test.YtnbgdklgcoofkaaTo
import Derived.Test.YtnbgdklgcoofkaaTa
import Derived.Test.YtnbgdklgcoofkaaTb
import Derived.Test.YtnbgdklgcoofkaaTc
import Derived.Test.YtnbgdklgcoofkaaTd
import Derived.Test.YtnbgdklgcoofkaaP
import Derived.Test.YtnbgdklgcoofkaaWa
import Derived.Test.YtnbgdklgcoofkaaWb
import Derived.Test.YtnbgdklgcoofkaaWc
import Derived.Test.YtnbgdklgcoofkaaQ
namespace Go.XG
open Go.Proofs
set_option maxRecDepth 4000
set_option maxHeartbeats 4000000
theorem c6 {O : Outer} {H : Heap} {bp c : Nat} {a : Option Addr} {l : List (List Int)} {g : Int} (mp : Blk H bp [.slice a (l).length c, .int .i64 g] 29) (hR : RowsT H 75 13 a l) (hc : l.length ≤ c) (hna : a = none → c = 0) (hl : l.length < 1000000) (hg : Goo l) (hg0 : 0 ≤ g) (hg1 : g ≤ 1099511627776) (d0 d1 d2 d3 d4 d5 d6 d7 d8 : Int) :
    FnC Try.prog 6 #[.pointer (some ⟨bp, 0, none⟩), .agg #[.int .i64 d0, .int .i64 d1, .int .i64 d2, .int .i64 d3, .int .i64 d4, .int .i64 d5, .int .i64 d6, .int .i64 d7, .int .i64 d8]] O H (fun v H' => ∃ a' c' L' g' n e, v = .tuple #[.int .i64 n, .int .i64 e] ∧ (But bp H H' ∧ Blk H' bp [.slice a' (L').length c', .int .i64 g'] 29 ∧ RowsT H' 75 13 a' (L') ∧ (L').length ≤ c' ∧ (a' = none → c' = 0)) ∧ AddR l g [d0, d1, d2, d3, d4, d5, d6, d7, d8] L' g' n e) := by
  refine fn_enter (A := [.pointer (some ⟨bp, 0, none⟩), .agg #[.int .i64 d0, .int .i64 d1, .int .i64 d2, .int .i64 d3, .int .i64 d4, .int .i64 d5, .int .i64 d6, .int .i64 d7, .int .i64 d8]]) Try.func6 rfl rfl ?_
  have hX := But.refl bp H
  refine xc_seq ?_
  refine xc_region ?_
  refine xl_heavy rfl rfl rfl (hv_box rfl rfl) ?_
  rintro v0_0 H0_0 ⟨b0_0, rfl, hN0_0⟩
  have gb0_0 := hX.fresh hN0_0
  have nmp_0_0 := mp.apart hN0_0
  have mp := mp.ext hN0_0.ext
  have hR := hR.ext hN0_0.ext
  have hX := hX.transE hN0_0.ext
  have m0_0 := hN0_0.blk
  refine xl_pure rfl rfl rfl (pv_assign (v := .int _ _) rfl rfl) ?_
  refine xl_pure rfl rfl rfl (pv_assign (v := .int _ _) rfl rfl) ?_
  refine xl_nil ?_
  refine xthen_normal ?_
  refine xc_seq ?_
  refine xc_block ?_
  refine xc_seq ?_
  refine xc_region ?_
  refine xl_pure rfl rfl rfl (pv_move (v := .pointer _) rfl rfl) ?_
  refine xl_pure rfl rfl rfl (pv_eql_pn rfl rfl rfl) ?_
  refine xl_pure rfl rfl rfl (pv_move (v := .bool _) rfl rfl) ?_
  refine xl_light rfl rfl rfl (lv_load (v := .agg _) rfl rfl (ld_blk_a m0_0 rfl rfl)) ?_
  refine xl_heavy rfl rfl rfl (hv_call (g := 18) rfl rfl (c18 d0 d1 d2 d3 d4 d5 d6 d7 d8) rfl) ?_
  rintro v1_4 H1_4 ⟨hv1_4, hE1_4⟩
  have mp := mp.ext hE1_4
  have hR := hR.ext hE1_4
  have m0_0 := m0_0.ext hE1_4
  have hX := hX.transE hE1_4
  rcases hv1_4 with ⟨hi1_4, rfl⟩ | ⟨hi1_4, rfl⟩
  · skip
    refine xl_pure rfl rfl rfl (pv_not rfl rfl) ?_
    refine xl_pure rfl rfl rfl (pv_pick_f (v := .bool _) rfl rfl rfl) ?_
    refine xl_pure rfl rfl rfl (pv_move (v := .bool _) rfl rfl) ?_
    refine xl_pure rfl rfl rfl (pv_fieldAddr rfl rfl) ?_
    refine xl_light rfl rfl rfl (lv_load (v := .int _ _) rfl rfl (ld_blk m0_0 rfl)) ?_
    refine xl_ndec rfl rfl rfl (pv_neq rfl rfl rfl) (fun h1_10 => ?_) (fun h1_10 => ?_)
    · skip
      refine xl_pure rfl rfl rfl (pv_pick_f (v := .bool _) rfl rfl rfl) ?_
      refine xl_pure rfl rfl rfl (pv_assign (v := .bool _) rfl rfl) ?_
      refine xl_nil ?_
      refine xthen_normal ?_
      refine xc_cond_f rfl ?_
      refine xc_seq ?_
      refine xc_region ?_
      refine xl_pure rfl rfl rfl (pv_move (v := .pointer _) rfl rfl) ?_
      refine xl_heavy rfl rfl rfl (hv_call (g := 19) rfl rfl (c19 mp hR hc hna hl hg hg0 hg1 1 (by omega) (by omega)) rfl) ?_
      rintro v3_1 H3_1 ⟨hv3_1, rfl⟩
      rcases hv3_1 with ⟨hi3_1, rfl⟩ | ⟨hi3_1, rfl⟩
      · skip
        refine xl_pure rfl rfl rfl (pv_not rfl rfl) ?_
        refine xl_pure rfl rfl rfl (pv_assign (v := .bool _) rfl rfl) ?_
        refine xl_nil ?_
        refine xthen_normal ?_
        refine xc_cond_f rfl ?_
        refine xc_skip ?_
        refine xblock_normal ?_
        refine xthen_normal ?_
        refine xc_seq ?_
        refine xc_region ?_
        refine xl_pure rfl rfl rfl (pv_move (v := .pointer _) rfl rfl) ?_
        refine xl_pure rfl rfl rfl (pv_nilCheck_p rfl rfl) ?_
        refine xl_pure rfl rfl rfl (pv_fieldAddr rfl rfl) ?_
        refine xl_light rfl rfl rfl (lv_load (v := .int _ _) rfl rfl (ld_blk mp rfl)) ?_
        refine xl_pure rfl rfl rfl (pv_add rfl rfl rfl (fit_i64 (by omega))) ?_
        refine xl_pure rfl rfl rfl (pv_nilCheck_p rfl rfl) ?_
        refine xl_pure rfl rfl rfl (pv_fieldAddr rfl rfl) ?_
        refine xl_store rfl rfl (hv_store (vs := [.int _ _]) rfl rfl rfl (mp) rfl (Nat.le_of_ble_eq_true rfl) rfl) ?_
        rintro v5_7 H5_7 ⟨hU5_7, hZ5_7⟩
        have hR := hR.offT mp hU5_7.but (by first | rfl | assumption)
        have m0_0 := m0_0.off hU5_7.but (by first | exact nmp_0_0.symm | exact ⟨m0_0.ne mp rfl⟩ | exact ⟨m0_0.ne mp (by assumption)⟩ | exact ⟨Ne.symm (mp.ne m0_0 (by assumption))⟩)
        have hX := hX.trans hU5_7.but
        have mp := hU5_7.blk
        replace mp : Blk H5_7 bp [.slice a (l).length c, .int .i64 (g + 1)] 29 := mp
        refine xl_nil ?_
        refine xthen_normal ?_
        refine xc_seq ?_
        refine xc_region ?_
        refine xl_pure rfl rfl rfl (pv_move (v := .pointer _) rfl rfl) ?_
        refine xl_pure rfl rfl rfl (pv_nilCheck_p rfl rfl) ?_
        refine xl_pure rfl rfl rfl (pv_fieldAddr rfl rfl) ?_
        refine xl_light rfl rfl rfl (lv_load (v := .int _ _) rfl rfl (ld_blk mp rfl)) ?_
        refine xl_pure rfl rfl rfl (pv_fieldAddr rfl rfl) ?_
        refine xl_store rfl rfl (hv_store (vs := [.int _ _]) rfl rfl rfl (m0_0) rfl (Nat.le_of_ble_eq_true rfl) rfl) ?_
        rintro v6_5 H6_5 ⟨hU6_5, hZ6_5⟩
        have mp := mp.off hU6_5.but (by first | exact nmp_0_0 | exact ⟨mp.ne m0_0 rfl⟩ | exact ⟨mp.ne m0_0 (by assumption)⟩ | exact ⟨Ne.symm (m0_0.ne mp (by assumption))⟩)
        have hR := hR.offT m0_0 hU6_5.but (by first | rfl | assumption)
        have hX := hX.upd hU6_5.but gb0_0
        have m0_0 := hU6_5.blk
        replace m0_0 : Blk H6_5 b0_0 [.int .i64 (g + 1), .int .i64 d1, .int .i64 d2, .int .i64 d3, .int .i64 d4, .int .i64 d5, .int .i64 d6, .int .i64 d7, .int .i64 d8] 23 := m0_0
        refine xl_nil ?_
        refine xthen_normal ?_
        refine xc_seq ?_
        refine xp_start rfl (by repeat (first | with_reducible exact np_fin | with_reducible refine np_then ?_ | with_reducible refine np_block ?_)) (by kernel_rfl) ?_
        refine xp_pure (i := 0) rfl (by kernel_rfl) (by kernel_rfl) rfl rfl rfl (pv_move (v := .pointer _) rfl rfl) ?_
        refine xp_pure (i := 1) rfl (by kernel_rfl) (by kernel_rfl) rfl rfl rfl (pv_nilCheck_p rfl rfl) ?_
        refine xp_pure (i := 2) rfl (by kernel_rfl) (by kernel_rfl) rfl rfl rfl (pv_fieldAddr rfl rfl) ?_
        refine xp_pure (i := 3) rfl (by kernel_rfl) (by kernel_rfl) rfl rfl rfl (pv_fieldAddr rfl rfl) ?_
        refine xp_light (i := 4) rfl (by kernel_rfl) (by kernel_rfl) rfl rfl rfl (lv_load (v := .int _ _) rfl rfl (ld_blk m0_0 rfl)) ?_
        refine xp_light (i := 6) rfl (by kernel_rfl) (by kernel_rfl) rfl rfl rfl (lv_load (v := .agg _) rfl rfl (ld_blk_a m0_0 rfl rfl)) ?_
        refine xp_heavy (i := 5) (by kernel_rfl) ?_
        refine xph_val rfl rfl rfl rfl (hv_call (g := 21) rfl rfl (c21 (g + 1)) rfl) (pk (by kernel_rfl) (pd (by kernel_rfl) pn)) ?_
        rintro v7_5 H7_5 ⟨rfl, hE7_5⟩
        have mp := mp.ext hE7_5
        have hR := hR.ext hE7_5
        have m0_0 := m0_0.ext hE7_5
        have hX := hX.transE hE7_5
        refine ⟨(okc (lv_load (v := .agg _) rfl rfl (ld_blk_a m0_0 rfl rfl)) okn), ?_⟩
        refine xp_heavy (i := 7) (by kernel_rfl) ?_
        refine xph_val rfl rfl rfl rfl (hv_call (g := 20) rfl rfl (c20 mp hR rfl hg.srt hc hna (by omega) [g + 1, 0, 0, 0] rfl [g + 1, d1, d2, d3, d4, d5, d6, d7, d8] rfl) rfl) (pd (by kernel_rfl) pn) ?_
        rintro v7_7 H7_7 ⟨a7_7, c7_7, hv7_7, hU7_7, hR7_7, hc7_7, hna7_7⟩
        have hR := hR.offT mp hU7_7.but (by first | rfl | assumption)
        have m0_0 := m0_0.off hU7_7.but (by first | exact nmp_0_0.symm | exact ⟨m0_0.ne mp rfl⟩ | exact ⟨m0_0.ne mp (by assumption)⟩ | exact ⟨Ne.symm (mp.ne m0_0 (by assumption))⟩)
        have hX := hX.trans hU7_7.but
        have mp := hU7_7.blk
        refine ⟨okn, ?_⟩
        refine xp_done (by kernel_rfl) ?_
        refine xthen_normal ?_
        refine xc_seq ?_
        refine xc_region ?_
        refine xl_pure rfl rfl rfl (pv_fieldAddr rfl rfl) ?_
        refine xl_light rfl rfl rfl (lv_load (v := .int _ _) rfl rfl (ld_blk m0_0 rfl)) ?_
        refine xl_pure rfl rfl rfl (pv_assign (v := .int _ _) rfl rfl) ?_
        refine xl_pure rfl rfl rfl (pv_assign (v := .int _ _) rfl rfl) ?_
        refine xl_nil ?_
        refine xthen_normal ?_
        refine xc_ret ?_
        refine fin_ret (res2 (v := .int _ _) (x := .int _ _) rfl rfl rfl) ?_
        exact ⟨_, _, _, _, _, _, rfl, ⟨hX, mp, hR7_7, hc7_7, hna7_7⟩, .inl ⟨hi1_4, h1_10, by omega, by omega, rfl, rfl, rfl, rfl⟩⟩
      · skip
        refine xl_pure rfl rfl rfl (pv_not rfl rfl) ?_
        refine xl_pure rfl rfl rfl (pv_assign (v := .bool _) rfl rfl) ?_
        refine xl_nil ?_
        refine xthen_normal ?_
        refine xc_cond_t rfl ?_
        refine xc_seq ?_
        refine xc_region ?_
        refine xl_pure rfl rfl rfl (pv_assign (v := .int _ _) rfl rfl) ?_
        refine xl_pure rfl rfl rfl (pv_assign (v := .int _ _) rfl rfl) ?_
        refine xl_nil ?_
        refine xthen_normal ?_
        refine xc_ret ?_
        refine xblock_ret ?_
        refine xthen_ret ?_
        refine fin_ret (res2 (v := .int _ _) (x := .int _ _) rfl rfl rfl) ?_
        exact ⟨a, c, l, g, 0, 4, rfl, ⟨hX, mp, hR, hc, hna⟩, .inr (.inr ⟨rfl, rfl, rfl, rfl, by omega⟩)⟩
    · skip
      refine xl_pure rfl rfl rfl (pv_pick_f (v := .bool _) rfl rfl rfl) ?_
      refine xl_pure rfl rfl rfl (pv_assign (v := .bool _) rfl rfl) ?_
      refine xl_nil ?_
      refine xthen_normal ?_
      refine xc_cond_t rfl ?_
      refine xc_seq ?_
      refine xc_region ?_
      refine xl_pure rfl rfl rfl (pv_assign (v := .int _ _) rfl rfl) ?_
      refine xl_pure rfl rfl rfl (pv_assign (v := .int _ _) rfl rfl) ?_
      refine xl_nil ?_
      refine xthen_normal ?_
      refine xc_ret ?_
      refine xblock_ret ?_
      refine xthen_ret ?_
      refine fin_ret (res2 (v := .int _ _) (x := .int _ _) rfl rfl rfl) ?_
      exact ⟨a, c, l, g, 0, 1, rfl, ⟨hX, mp, hR, hc, hna⟩, .inr (.inl ⟨rfl, rfl, rfl, rfl, fun h => by first | exact hi1_4 h.1 | exact h1_10 h.2⟩)⟩
  · skip
    refine xl_pure rfl rfl rfl (pv_not rfl rfl) ?_
    refine xl_pure rfl rfl rfl (pv_pick_f (v := .bool _) rfl rfl rfl) ?_
    refine xl_pure rfl rfl rfl (pv_move (v := .bool _) rfl rfl) ?_
    refine xl_skip rfl rfl rfl ?_
    refine xl_skip rfl rfl rfl ?_
    refine xl_skip rfl rfl rfl ?_
    refine xl_pure rfl rfl rfl (pv_pick_t (v := .bool _) rfl rfl rfl) ?_
    refine xl_pure rfl rfl rfl (pv_assign (v := .bool _) rfl rfl) ?_
    refine xl_nil ?_
    refine xthen_normal ?_
    refine xc_cond_t rfl ?_
    refine xc_seq ?_
    refine xc_region ?_
    refine xl_pure rfl rfl rfl (pv_assign (v := .int _ _) rfl rfl) ?_
    refine xl_pure rfl rfl rfl (pv_assign (v := .int _ _) rfl rfl) ?_
    refine xl_nil ?_
    refine xthen_normal ?_
    refine xc_ret ?_
    refine xblock_ret ?_
    refine xthen_ret ?_
    refine fin_ret (res2 (v := .int _ _) (x := .int _ _) rfl rfl rfl) ?_
    exact ⟨a, c, l, g, 0, 1, rfl, ⟨hX, mp, hR, hc, hna⟩, .inr (.inl ⟨rfl, rfl, rfl, rfl, fun h => by first | exact hi1_4 h.1 | exact h1_10 h.2⟩)⟩

theorem c6n {O : Outer} {H : Heap} {vd : Value} :
    FnC Try.prog 6 #[.pointer none, vd] O H (fun v H' => v = .tuple #[.int .i64 0, .int .i64 1] ∧ Ext H H') := by
  refine fn_enter (A := [.pointer none, vd]) Try.func6 rfl rfl ?_
  have hX := Ext.refl H
  refine xc_seq ?_
  refine xc_region ?_
  refine xl_heavy rfl rfl rfl (hv_box rfl rfl) ?_
  rintro v0_0 H0_0 ⟨b0_0, rfl, hN0_0⟩
  have gb0_0 := hX.fresh hN0_0
  have hX := hX.trans hN0_0.ext
  have m0_0 := hN0_0.blk
  refine xl_pure rfl rfl rfl (pv_assign (v := .int _ _) rfl rfl) ?_
  refine xl_pure rfl rfl rfl (pv_assign (v := .int _ _) rfl rfl) ?_
  refine xl_nil ?_
  refine xthen_normal ?_
  refine xc_seq ?_
  refine xc_block ?_
  refine xc_seq ?_
  refine xc_region ?_
  refine xl_pure rfl rfl rfl (pv_move (v := .pointer _) rfl rfl) ?_
  refine xl_pure rfl rfl rfl (pv_eql_nn rfl rfl rfl) ?_
  refine xl_pure rfl rfl rfl (pv_move (v := .bool _) rfl rfl) ?_
  refine xl_skip rfl rfl rfl ?_
  refine xl_skip rfl rfl rfl ?_
  refine xl_skip rfl rfl rfl ?_
  refine xl_pure rfl rfl rfl (pv_pick_t (v := .bool _) rfl rfl rfl) ?_
  refine xl_pure rfl rfl rfl (pv_move (v := .bool _) rfl rfl) ?_
  refine xl_skip rfl rfl rfl ?_
  refine xl_skip rfl rfl rfl ?_
  refine xl_skip rfl rfl rfl ?_
  refine xl_pure rfl rfl rfl (pv_pick_t (v := .bool _) rfl rfl rfl) ?_
  refine xl_pure rfl rfl rfl (pv_assign (v := .bool _) rfl rfl) ?_
  refine xl_nil ?_
  refine xthen_normal ?_
  refine xc_cond_t rfl ?_
  refine xc_seq ?_
  refine xc_region ?_
  refine xl_pure rfl rfl rfl (pv_assign (v := .int _ _) rfl rfl) ?_
  refine xl_pure rfl rfl rfl (pv_assign (v := .int _ _) rfl rfl) ?_
  refine xl_nil ?_
  refine xthen_normal ?_
  refine xc_ret ?_
  refine xblock_ret ?_
  refine xthen_ret ?_
  refine fin_ret (res2 (v := .int _ _) (x := .int _ _) rfl rfl rfl) ?_
  exact ⟨rfl, hX⟩

theorem c22 {O : Outer} {H : Heap} {bp c : Nat} {a : Option Addr} {l : List (List Int)} {g : Int} (mp : Blk H bp [.slice a (l).length c, .int .i64 g] 29) (hR : RowsT H 75 13 a l) (hc : l.length ≤ c) (hna : a = none → c = 0) (hl : l.length < 1000000) (hg : Goo l) (hg0 : 0 ≤ g) (hg1 : g ≤ 1099511627776) (o p q : Int) :
    FnC Try.prog 22 #[.pointer (some ⟨bp, 0, none⟩), .int .i64 o, .int .i64 p, .int .i64 q] O H (fun v H' => ∃ a' c' ai ci L' g' I e, v = .tuple #[.slice ai (List.length I) ci, .int .i64 e] ∧ (But bp H H' ∧ Blk H' bp [.slice a' (L').length c', .int .i64 g'] 29 ∧ RowsT H' 75 13 a' (L') ∧ (L').length ≤ c' ∧ (a' = none → c' = 0)) ∧ RowsT H' 3 1 ai I ∧ CopR l g L' g' I e ∧ CopX l g o p q L' g' I e) := by
  refine fn_enter (A := [.pointer (some ⟨bp, 0, none⟩), .int .i64 o, .int .i64 p, .int .i64 q]) Try.func22 rfl rfl ?_
  have hX := But.refl bp H
  refine xc_seq ?_
  refine xc_region ?_
  refine xl_pure rfl rfl rfl (pv_assign (v := .slice _ _ _) rfl rfl) ?_
  refine xl_pure rfl rfl rfl (pv_assign (v := .int _ _) rfl rfl) ?_
  refine xl_nil ?_
  refine xthen_normal ?_
  refine xc_seq ?_
  refine xc_region ?_
  refine xl_pure rfl rfl rfl (pv_move (v := .pointer _) rfl rfl) ?_
  refine xl_pure rfl rfl rfl (pv_move (v := .int _ _) rfl rfl) ?_
  refine xl_heavy rfl rfl rfl (hv_call (g := 8) rfl rfl (c8 mp hR hc hna hl hg o) rfl) ?_
  rintro v1_2 H1_2 ⟨hv1_2, hE1_2⟩
  have mp := mp.ext hE1_2
  have hR := hR.ext hE1_2
  have hX := hX.transE hE1_2
  rcases hv1_2 with ⟨hh, hv1_2⟩ | ⟨hh, rfl⟩
  · skip
    obtain ⟨d0, d1, d2, d3, d4, d5, d6, d7, d8, hd, hi⟩ := hg.at hh
    rw [hd] at hv1_2
    subst hv1_2
    refine xl_pure rfl rfl rfl (pv_move (v := .tuple _) rfl rfl) ?_
    refine xl_pure rfl rfl rfl (pv_extract (v := .agg _) rfl rfl rfl) ?_
    refine xl_pure rfl rfl rfl (pv_extract (v := .int _ _) rfl rfl rfl) ?_
    refine xl_heavy rfl rfl rfl (hv_alloc rfl rfl) ?_
    rintro v1_6 H1_6 ⟨b1_6, rfl, hN1_6⟩
    have gb1_6 := hX.fresh hN1_6
    have nmp_1_6 := mp.apart hN1_6
    have mp := mp.ext hN1_6.ext
    have hR := hR.ext hN1_6.ext
    have hX := hX.transE hN1_6.ext
    have m1_6 := hN1_6.blk
    refine xl_store rfl rfl (hv_storeA (vs := [.int _ _, .int _ _, .int _ _, .int _ _, .int _ _, .int _ _, .int _ _, .int _ _, .int _ _]) rfl rfl rfl (m1_6) rfl (by rfl) rfl) ?_
    rintro v1_7 H1_7 ⟨hU1_7, hZ1_7⟩
    have mp := mp.off hU1_7.but (by first | exact nmp_1_6 | exact ⟨mp.ne m1_6 rfl⟩ | exact ⟨mp.ne m1_6 (by assumption)⟩ | exact ⟨Ne.symm (m1_6.ne mp (by assumption))⟩)
    have hR := hR.offT m1_6 hU1_7.but (by first | rfl | assumption)
    have hX := hX.upd hU1_7.but gb1_6
    have m1_6 := hU1_7.blk
    refine xl_pure rfl rfl rfl (pv_assign (v := .int _ _) rfl rfl) ?_
    refine xl_nil ?_
    refine xthen_normal ?_
    refine xc_seq ?_
    refine xc_block ?_
    refine xc_seq ?_
    refine xc_region ?_
    refine xl_pure rfl rfl rfl (pv_move (v := .int _ _) rfl rfl) ?_
    refine xl_ndec rfl rfl rfl (pv_neq rfl rfl rfl) (fun h2_1 => ?_) (fun h2_1 => ?_)
    · first
      | (exfalso; omega)
      |  (skip
          refine xl_pure rfl rfl rfl (pv_assign (v := .bool _) rfl rfl) ?_
          refine xl_nil ?_
          refine xthen_normal ?_
          refine xc_cond_f rfl ?_
          refine xc_seq ?_
          refine xc_region ?_
          refine xl_pure rfl rfl rfl (pv_move (v := .int _ _) rfl rfl) ?_
          refine xl_heavy rfl rfl rfl (hv_call (g := 29) rfl rfl (c29 (p) (1) (10)) rfl) ?_
          rintro v4_1 H4_1 ⟨hv4_1, rfl⟩
          rcases hv4_1 with ⟨hi4_1, rfl⟩ | ⟨hi4_1, rfl⟩
          · skip
            refine xl_pure rfl rfl rfl (pv_not rfl rfl) ?_
            refine xl_pure rfl rfl rfl (pv_move (v := .bool _) rfl rfl) ?_
            refine xl_pure rfl rfl rfl (pv_move (v := .int _ _) rfl rfl) ?_
            refine xl_heavy rfl rfl rfl (hv_call (g := 29) rfl rfl (c29 (q) (1) (1000)) rfl) ?_
            rintro v4_5 H4_5 ⟨hv4_5, rfl⟩
            rcases hv4_5 with ⟨hi4_5, rfl⟩ | ⟨hi4_5, rfl⟩
            · skip
              refine xl_pure rfl rfl rfl (pv_not rfl rfl) ?_
              refine xl_pure rfl rfl rfl (pv_pick_f (v := .bool _) rfl rfl rfl) ?_
              refine xl_pure rfl rfl rfl (pv_assign (v := .bool _) rfl rfl) ?_
              refine xl_nil ?_
              refine xthen_normal ?_
              refine xc_cond_f rfl ?_
              refine xc_seq ?_
              refine xc_region ?_
              refine xl_pure rfl rfl rfl (pv_fieldAddr rfl rfl) ?_
              refine xl_light rfl rfl rfl (lv_load (v := .int _ _) rfl rfl (ld_blk m1_6 rfl)) ?_
              refine xl_ndec rfl rfl rfl (pv_neq rfl rfl rfl) (fun h6_2 => ?_) (fun h6_2 => ?_)
              · skip
                refine xl_pure rfl rfl rfl (pv_assign (v := .bool _) rfl rfl) ?_
                refine xl_nil ?_
                refine xthen_normal ?_
                refine xc_cond_f rfl ?_
                refine xc_seq ?_
                refine xc_region ?_
                refine xl_pure rfl rfl rfl (pv_move (v := .pointer _) rfl rfl) ?_
                refine xl_pure rfl rfl rfl (pv_move (v := .int _ _) rfl rfl) ?_
                refine xl_heavy rfl rfl rfl (hv_call (g := 19) rfl rfl (c19 mp hR hc hna hl hg hg0 hg1 p (by omega) (by omega)) rfl) ?_
                rintro v8_2 H8_2 ⟨hv8_2, rfl⟩
                rcases hv8_2 with ⟨hi8_2, rfl⟩ | ⟨hi8_2, rfl⟩
                · skip
                  refine xl_pure rfl rfl rfl (pv_not rfl rfl) ?_
                  refine xl_pure rfl rfl rfl (pv_assign (v := .bool _) rfl rfl) ?_
                  refine xl_nil ?_
                  refine xthen_normal ?_
                  refine xc_cond_f rfl ?_
                  refine xc_skip ?_
                  refine xblock_normal ?_
                  refine xthen_normal ?_
                  refine xc_seq ?_
                  refine xc_region ?_
                  refine xl_pure rfl rfl rfl (pv_move (v := .int _ _) rfl rfl) ?_
                  refine xl_pure rfl rfl rfl (pv_fieldAddr rfl rfl) ?_
                  refine xl_store rfl rfl (hv_store (vs := [.int _ _]) rfl rfl rfl (m1_6) rfl (Nat.le_of_ble_eq_true rfl) rfl) ?_
                  rintro v10_2 H10_2 ⟨hU10_2, hZ10_2⟩
                  have mp := mp.off hU10_2.but (by first | exact nmp_1_6 | exact ⟨mp.ne m1_6 rfl⟩ | exact ⟨mp.ne m1_6 (by assumption)⟩ | exact ⟨Ne.symm (m1_6.ne mp (by assumption))⟩)
                  have hR := hR.offT m1_6 hU10_2.but (by first | rfl | assumption)
                  have hX := hX.upd hU10_2.but gb1_6
                  have m1_6 := hU10_2.blk
                  refine xl_pure rfl rfl rfl (pv_fieldAddr rfl rfl) ?_
                  refine xl_store rfl rfl (hv_store (vs := [.int _ _]) rfl rfl rfl (m1_6) rfl (Nat.le_of_ble_eq_true rfl) rfl) ?_
                  rintro v10_4 H10_4 ⟨hU10_4, hZ10_4⟩
                  have mp := mp.off hU10_4.but (by first | exact nmp_1_6 | exact ⟨mp.ne m1_6 rfl⟩ | exact ⟨mp.ne m1_6 (by assumption)⟩ | exact ⟨Ne.symm (m1_6.ne mp (by assumption))⟩)
                  have hR := hR.offT m1_6 hU10_4.but (by first | rfl | assumption)
                  have hX := hX.upd hU10_4.but gb1_6
                  have m1_6 := hU10_4.blk
                  replace m1_6 : Blk H10_4 b1_6 [.int .i64 d0, .int .i64 d1, .int .i64 d2, .int .i64 d3, .int .i64 d4, .int .i64 d5, .int .i64 d6, .int .i64 q, .int .i64 0] 23 := m1_6
                  refine xl_nil ?_
                  refine xthen_normal ?_
                  refine xc_seq ?_
                  have hID : IsD [d0, d1, d2, d3, d4, d5, d6, q, 0] := by have := isD_iff.1 hi; rw [isD_iff]; omega
                  refine xc_region ?_
                  refine xl_pure rfl rfl rfl (pv_assign (v := .slice _ _ _) rfl rfl) ?_
                  refine xl_nil ?_
                  refine xthen_normal ?_
                  refine xc_seq ?_
                  refine xc_seq ?_
                  refine xc_region ?_
                  refine xl_pure rfl rfl rfl (pv_move (v := .int _ _) rfl rfl) ?_
                  refine xl_pure rfl rfl rfl (pv_move (v := .int _ _) rfl rfl) ?_
                  refine xl_nil ?_
                  refine xthen_normal ?_
                  refine xc_block ?_
                  refine xc_loop (τ := Nat × Option Addr × Nat × Option Addr × Nat) (fun t => [(0, .pointer (some ⟨bp, 0, none⟩)), (10, .pointer (some ⟨b1_6, 0, none⟩)), (12, .slice t.2.2.2.1 t.1 t.2.2.2.2), (46, .int .i64 p), (47, .int .i64 (t.1 : Nat))]) (fun t H' => ((t.1 : Int) ≤ p) ∧ (Blk H' bp [.slice t.2.1 ((copL l g [d0, d1, d2, d3, d4, d5, d6, q, 0] t.1)).length t.2.2.1, .int .i64 (g + (t.1 : Nat))] 29) ∧ (RowsT H' 75 13 t.2.1 (copL l g [d0, d1, d2, d3, d4, d5, d6, q, 0] t.1)) ∧ ((copL l g [d0, d1, d2, d3, d4, d5, d6, q, 0] t.1).length ≤ t.2.2.1) ∧ (t.2.1 = none → t.2.2.1 = 0) ∧ (Goo (copL l g [d0, d1, d2, d3, d4, d5, d6, q, 0] t.1)) ∧ ((copL l g [d0, d1, d2, d3, d4, d5, d6, q, 0] t.1).length ≤ l.length + t.1) ∧ (Blk H' b1_6 [.int .i64 d0, .int .i64 d1, .int .i64 d2, .int .i64 d3, .int .i64 d4, .int .i64 d5, .int .i64 d6, .int .i64 q, .int .i64 0] 23) ∧ (Own H' H.size 3 1 (.slice t.2.2.2.1 t.1 t.2.2.2.2) t.1 (fr (idsR g t.1))) ∧ (But bp H H')) (fun t H' => (p - t.1).toNat) (0, a, c, none, 0) ?_ ?_ ?_
                  · exact ⟨rfl, rfl, rfl, rfl, rfl, trivial⟩
                  · skip
                    exact ⟨by omega, by rw [show g + ((0 : Nat) : Int) = g from Int.add_zero g]; exact mp, hR, hc, hna, hg, Nat.le_refl _, m1_6, by simpa [idsR, fr] using Own.nil _ H.size 3 1, hX⟩
                  · intro σ
                    clear hX mp hR m1_6
                    rintro ⟨i, a1, c1, va, vc⟩ Hl13 ⟨hip, mp, hR, hc1, hna1, hgL, hlL, m1_6, ho, hX⟩
                    replace hip : (i : Int) ≤ p := hip
                    replace mp : Blk Hl13 bp [.slice a1 ((copL l g [d0, d1, d2, d3, d4, d5, d6, q, 0] i)).length c1, .int .i64 (g + (i : Nat))] 29 := mp
                    replace hR : RowsT Hl13 75 13 a1 (copL l g [d0, d1, d2, d3, d4, d5, d6, q, 0] i) := hR
                    replace hc1 : (copL l g [d0, d1, d2, d3, d4, d5, d6, q, 0] i).length ≤ c1 := hc1
                    replace hna1 : a1 = none → c1 = 0 := hna1
                    replace hgL : Goo (copL l g [d0, d1, d2, d3, d4, d5, d6, q, 0] i) := hgL
                    replace hlL : (copL l g [d0, d1, d2, d3, d4, d5, d6, q, 0] i).length ≤ l.length + i := hlL
                    replace m1_6 : Blk Hl13 b1_6 [.int .i64 d0, .int .i64 d1, .int .i64 d2, .int .i64 d3, .int .i64 d4, .int .i64 d5, .int .i64 d6, .int .i64 q, .int .i64 0] 23 := m1_6
                    replace ho : Own Hl13 H.size 3 1 (.slice va i vc) i (fr (idsR g i)) := ho
                    replace hX : But bp H Hl13 := hX
                    show XC _ _ _ (upds σ [(0, .pointer (some ⟨bp, 0, none⟩)), (10, .pointer (some ⟨b1_6, 0, none⟩)), (12, .slice va i vc), (46, .int .i64 p), (47, .int .i64 (i : Nat))]) _
                    refine xc_seq ?_
                    refine xc_region ?_
                    refine xl_dec rfl rfl rfl (pv_lss rfl rfl rfl) (fun h13_0 => ?_) (fun h13_0 => ?_)
                    · skip
                      refine xl_nil ?_
                      refine xthen_normal ?_
                      refine xc_seq ?_
                      refine xc_cond_t rfl ?_
                      refine xc_skip ?_
                      refine xthen_normal ?_
                      refine xc_seq ?_
                      refine xc_block ?_
                      refine xc_seq ?_
                      refine xc_region ?_
                      refine xl_pure rfl rfl rfl (pv_move (v := .pointer _) rfl rfl) ?_
                      refine xl_light rfl rfl rfl (lv_load (v := .agg _) rfl rfl (ld_blk_a m1_6 rfl rfl)) ?_
                      refine xl_heavy rfl rfl rfl (hv_call (g := 6) rfl rfl (c6 mp hR hc1 hna1 (by omega) hgL (by omega) (by omega) d0 d1 d2 d3 d4 d5 d6 q 0) rfl) ?_
                      rintro v14_2 H14_2 ⟨a14_2, c14_2, L14_2, g14_2, n14_2, e14_2, rfl, ⟨hB14_2, hT14_2, hR14_2, hc14_2, hna14_2⟩, hA14_2⟩
                      have hR := hR.offT mp hB14_2 (by first | rfl | assumption)
                      have m1_6 := m1_6.off hB14_2 (by first | exact nmp_1_6.symm | exact ⟨m1_6.ne mp rfl⟩ | exact ⟨m1_6.ne mp (by assumption)⟩ | exact ⟨Ne.symm (mp.ne m1_6 (by assumption))⟩)
                      have ho := ho.offU mp hB14_2 (.inl rfl)
                      have hX := hX.trans hB14_2
                      have mp := hT14_2
                      obtain ⟨rfl, rfl, rfl, rfl⟩ := add_ok hA14_2 hID rfl (by omega) (by omega)
                      refine xl_pure rfl rfl rfl (pv_move (v := .tuple _) rfl rfl) ?_
                      refine xl_pure rfl rfl rfl (pv_extract (v := .int _ _) rfl rfl rfl) ?_
                      refine xl_pure rfl rfl rfl (pv_extract (v := .int _ _) rfl rfl rfl) ?_
                      refine xl_pure rfl rfl rfl (pv_assign (v := .int _ _) rfl rfl) ?_
                      refine xl_pure rfl rfl rfl (pv_assign (v := .int _ _) rfl rfl) ?_
                      refine xl_nil ?_
                      refine xthen_normal ?_
                      refine xc_region ?_
                      refine xl_pure rfl rfl rfl (pv_move (v := .slice _ _ _) rfl rfl) ?_
                      refine xl_pure rfl rfl rfl (pv_move (v := .int _ _) rfl rfl) ?_
                      refine xl_heavy rfl rfl rfl (hv_buildSlice (cs := [.int _ _]) rfl rfl rfl rfl rfl) ?_
                      rintro v15_2 H15_2 ⟨b15_2, rfl, hN15_2⟩
                      have gb15_2 := hX.fresh hN15_2
                      have nmp_15_2 := mp.apart hN15_2
                      have nm1_6_15_2 := m1_6.apart hN15_2
                      have pm15_2_ho := ho.apartN hN15_2
                      have mp := mp.ext hN15_2.ext
                      have hR := hR.ext hN15_2.ext
                      have m1_6 := m1_6.ext hN15_2.ext
                      have ho := ho.ext hN15_2.ext
                      have hR14_2 := hR14_2.ext hN15_2.ext
                      have hX := hX.transE hN15_2.ext
                      have m15_2 := hN15_2.blk
                      refine xl_heavy rfl rfl rfl (hv_append rfl rfl ho rfl (m15_2.row) rfl (by simp [Value.oneCell']) rfl (by decide) (by omega) (by omega) hX.size) ?_
                      rintro v15_3 H15_3 ⟨hO15_3, hG15_3, -, hB15_3⟩
                      have mp := mp.offT ho hG15_3 rfl
                      have hR := hR.growT ho hG15_3 (by first | rfl | assumption)
                      have m1_6 := m1_6.offT ho hG15_3 rfl
                      have hR14_2 := hR14_2.growT ho hG15_3 (by first | rfl | assumption)
                      have hX := ho.grownB hX hG15_3 (Nat.le_refl _)
                      obtain ⟨a15_3, c15_3, rfl⟩ := hO15_3.val
                      refine xl_pure rfl rfl rfl (pv_assign (v := .slice _ _ _) rfl rfl) ?_
                      refine xl_nil ?_
                      refine xblock_normal ?_
                      refine xthen_normal ?_
                      refine xc_region ?_
                      refine xl_pure rfl rfl rfl (pv_add rfl rfl rfl (fit_i64 (by omega))) ?_
                      refine xl_pure rfl rfl rfl (pv_move (v := .int _ _) rfl rfl) ?_
                      refine xl_nil ?_
                      refine xthen_normal ?_
                      exact ⟨(i + 1, _, _, _, _), ⟨rfl, rfl, rfl, rfl, rfl, trivial⟩, ⟨by (try simp only); omega, by rw [show g + ((i + 1 : Nat) : Int) = g + (i : Nat) + 1 by omega]; exact mp, hR14_2, hc14_2, hna14_2, hgL.put rfl (show IsD [g + (i : Nat) + 1, d1, d2, d3, d4, d5, d6, q, 0] from hID), Nat.le_trans (put_len _ _) (by omega), m1_6, by rw [ids_next, show g + 1 + (i : Int) = g + (i : Nat) + 1 by omega]; exact hO15_3, hX⟩, by (try simp only); omega⟩
                    · skip
                      refine xl_nil ?_
                      refine xthen_normal ?_
                      refine xc_seq ?_
                      refine xc_cond_f rfl ?_
                      refine xc_exit ?_
                      refine xthen_exit ?_
                      refine xthen_exit ?_
                      refine xblock_same ?_
                      refine xthen_normal ?_
                      refine xc_seq ?_
                      refine xc_region ?_
                      refine xl_pure rfl rfl rfl (pv_move (v := .slice _ _ _) rfl rfl) ?_
                      refine xl_pure rfl rfl rfl (pv_assign (v := .slice _ _ _) rfl rfl) ?_
                      refine xl_pure rfl rfl rfl (pv_assign (v := .int _ _) rfl rfl) ?_
                      refine xl_nil ?_
                      refine xthen_normal ?_
                      refine xc_ret ?_
                      refine fin_ret (res2 (v := .slice _ _ _) (x := .int _ _) rfl rfl rfl) ?_
                      have hip2 : p = (i : Nat) := by omega
                      have hpi : p.toNat = i := by omega
                      exact ⟨a1, c1, va, vc, (copL l g [d0, d1, d2, d3, d4, d5, d6, q, 0] i), g + (i : Nat), idsR g i, 0, by rw [ids_len], ⟨hX, mp, hR, hc1, hna1⟩, own_rowsT wide_ids (by rw [ids_len]; exact ho), .inr ⟨rfl, by rw [ids_len]; omega, hgL, by omega, by omega, by omega, fun k hk => gr_ids (by rw [ids_len] at hk; exact hk)⟩, fun _ => ⟨rfl, by rw [hpi], by rw [hip2], by rw [hpi, hd]; rfl⟩⟩
                · skip
                  refine xl_pure rfl rfl rfl (pv_not rfl rfl) ?_
                  refine xl_pure rfl rfl rfl (pv_assign (v := .bool _) rfl rfl) ?_
                  refine xl_nil ?_
                  refine xthen_normal ?_
                  refine xc_cond_t rfl ?_
                  refine xc_seq ?_
                  refine xc_region ?_
                  refine xl_pure rfl rfl rfl (pv_assign (v := .slice _ _ _) rfl rfl) ?_
                  refine xl_pure rfl rfl rfl (pv_assign (v := .int _ _) rfl rfl) ?_
                  refine xl_nil ?_
                  refine xthen_normal ?_
                  refine xc_ret ?_
                  refine xblock_ret ?_
                  refine xthen_ret ?_
                  refine fin_ret (res2 (v := .slice _ _ _) (x := .int _ _) rfl rfl rfl) ?_
                  exact ⟨a, c, none, 0, l, g, [], 4, rfl, ⟨hX, mp, hR, hc, hna⟩, RowsT.nil, .inl ⟨by decide, rfl, rfl, by decide⟩, fun hc => by exact absurd hc.2.2.2.2 (by assumption)⟩
              · skip
                refine xl_pure rfl rfl rfl (pv_assign (v := .bool _) rfl rfl) ?_
                refine xl_nil ?_
                refine xthen_normal ?_
                refine xc_cond_t rfl ?_
                refine xc_seq ?_
                refine xc_region ?_
                refine xl_pure rfl rfl rfl (pv_assign (v := .slice _ _ _) rfl rfl) ?_
                refine xl_pure rfl rfl rfl (pv_assign (v := .int _ _) rfl rfl) ?_
                refine xl_nil ?_
                refine xthen_normal ?_
                refine xc_ret ?_
                refine xblock_ret ?_
                refine xthen_ret ?_
                refine fin_ret (res2 (v := .slice _ _ _) (x := .int _ _) rfl rfl rfl) ?_
                exact ⟨a, c, none, 0, l, g, [], 9, rfl, ⟨hX, mp, hR, hc, hna⟩, RowsT.nil, .inl ⟨by decide, rfl, rfl, by decide⟩, fun hc => by have := hc.2.2.2.1; rw [hd] at this; exact absurd this h6_2⟩
            · skip
              refine xl_pure rfl rfl rfl (pv_not rfl rfl) ?_
              refine xl_pure rfl rfl rfl (pv_pick_f (v := .bool _) rfl rfl rfl) ?_
              refine xl_pure rfl rfl rfl (pv_assign (v := .bool _) rfl rfl) ?_
              refine xl_nil ?_
              refine xthen_normal ?_
              refine xc_cond_t rfl ?_
              refine xc_seq ?_
              refine xc_region ?_
              refine xl_pure rfl rfl rfl (pv_assign (v := .slice _ _ _) rfl rfl) ?_
              refine xl_pure rfl rfl rfl (pv_assign (v := .int _ _) rfl rfl) ?_
              refine xl_nil ?_
              refine xthen_normal ?_
              refine xc_ret ?_
              refine xblock_ret ?_
              refine xthen_ret ?_
              refine fin_ret (res2 (v := .slice _ _ _) (x := .int _ _) rfl rfl rfl) ?_
              exact ⟨a, c, none, 0, l, g, [], 1, rfl, ⟨hX, mp, hR, hc, hna⟩, RowsT.nil, .inl ⟨by decide, rfl, rfl, by decide⟩, fun hc => by first | exact absurd hc.2.1 (by assumption) | exact absurd hc.2.2.1 (by assumption)⟩
          · skip
            refine xl_pure rfl rfl rfl (pv_not rfl rfl) ?_
            refine xl_pure rfl rfl rfl (pv_move (v := .bool _) rfl rfl) ?_
            refine xl_skip rfl rfl rfl ?_
            refine xl_skip rfl rfl rfl ?_
            refine xl_skip rfl rfl rfl ?_
            refine xl_pure rfl rfl rfl (pv_pick_t (v := .bool _) rfl rfl rfl) ?_
            refine xl_pure rfl rfl rfl (pv_assign (v := .bool _) rfl rfl) ?_
            refine xl_nil ?_
            refine xthen_normal ?_
            refine xc_cond_t rfl ?_
            refine xc_seq ?_
            refine xc_region ?_
            refine xl_pure rfl rfl rfl (pv_assign (v := .slice _ _ _) rfl rfl) ?_
            refine xl_pure rfl rfl rfl (pv_assign (v := .int _ _) rfl rfl) ?_
            refine xl_nil ?_
            refine xthen_normal ?_
            refine xc_ret ?_
            refine xblock_ret ?_
            refine xthen_ret ?_
            refine fin_ret (res2 (v := .slice _ _ _) (x := .int _ _) rfl rfl rfl) ?_
            exact ⟨a, c, none, 0, l, g, [], 1, rfl, ⟨hX, mp, hR, hc, hna⟩, RowsT.nil, .inl ⟨by decide, rfl, rfl, by decide⟩, fun hc => by first | exact absurd hc.2.1 (by assumption) | exact absurd hc.2.2.1 (by assumption)⟩)
    · first
      | (exfalso; omega)
      |  (skip
          refine xl_pure rfl rfl rfl (pv_assign (v := .bool _) rfl rfl) ?_
          refine xl_nil ?_
          refine xthen_normal ?_
          refine xc_cond_t rfl ?_
          refine xc_seq ?_
          refine xc_region ?_
          refine xl_pure rfl rfl rfl (pv_move (v := .int _ _) rfl rfl) ?_
          refine xl_pure rfl rfl rfl (pv_assign (v := .slice _ _ _) rfl rfl) ?_
          refine xl_pure rfl rfl rfl (pv_assign (v := .int _ _) rfl rfl) ?_
          refine xl_nil ?_
          refine xthen_normal ?_
          refine xc_ret ?_
          refine xblock_ret ?_
          refine xthen_ret ?_
          refine fin_ret (res2 (v := .slice _ _ _) (x := .int _ _) rfl rfl rfl) ?_
          exact ⟨a, c, none, 0, l, g, [], 3, rfl, ⟨hX, mp, hR, hc, hna⟩, RowsT.nil, .inl ⟨by decide, rfl, rfl, by decide⟩, fun hc => by have := hc.1; rw [hh] at this; exact absurd this (by decide)⟩)
  · skip
    refine xl_pure rfl rfl rfl (pv_move (v := .tuple _) rfl rfl) ?_
    refine xl_pure rfl rfl rfl (pv_extract (v := .agg _) rfl rfl rfl) ?_
    refine xl_pure rfl rfl rfl (pv_extract (v := .int _ _) rfl rfl rfl) ?_
    refine xl_heavy rfl rfl rfl (hv_alloc rfl rfl) ?_
    rintro v1_6 H1_6 ⟨b1_6, rfl, hN1_6⟩
    have gb1_6 := hX.fresh hN1_6
    have nmp_1_6 := mp.apart hN1_6
    have mp := mp.ext hN1_6.ext
    have hR := hR.ext hN1_6.ext
    have hX := hX.transE hN1_6.ext
    have m1_6 := hN1_6.blk
    refine xl_store rfl rfl (hv_storeA (vs := [.int _ _, .int _ _, .int _ _, .int _ _, .int _ _, .int _ _, .int _ _, .int _ _, .int _ _]) rfl rfl rfl (m1_6) rfl (by rfl) rfl) ?_
    rintro v1_7 H1_7 ⟨hU1_7, hZ1_7⟩
    have mp := mp.off hU1_7.but (by first | exact nmp_1_6 | exact ⟨mp.ne m1_6 rfl⟩ | exact ⟨mp.ne m1_6 (by assumption)⟩ | exact ⟨Ne.symm (m1_6.ne mp (by assumption))⟩)
    have hR := hR.offT m1_6 hU1_7.but (by first | rfl | assumption)
    have hX := hX.upd hU1_7.but gb1_6
    have m1_6 := hU1_7.blk
    refine xl_pure rfl rfl rfl (pv_assign (v := .int _ _) rfl rfl) ?_
    refine xl_nil ?_
    refine xthen_normal ?_
    refine xc_seq ?_
    refine xc_block ?_
    refine xc_seq ?_
    refine xc_region ?_
    refine xl_pure rfl rfl rfl (pv_move (v := .int _ _) rfl rfl) ?_
    refine xl_ndec rfl rfl rfl (pv_neq rfl rfl rfl) (fun h2_1 => ?_) (fun h2_1 => ?_)
    · first
      | (exfalso; omega)
      |  (skip
          refine xl_pure rfl rfl rfl (pv_assign (v := .bool _) rfl rfl) ?_
          refine xl_nil ?_
          refine xthen_normal ?_
          refine xc_cond_f rfl ?_
          refine xc_seq ?_
          refine xc_region ?_
          refine xl_pure rfl rfl rfl (pv_move (v := .int _ _) rfl rfl) ?_
          refine xl_heavy rfl rfl rfl (hv_call (g := 29) rfl rfl (c29 (p) (1) (10)) rfl) ?_
          rintro v4_1 H4_1 ⟨hv4_1, rfl⟩
          rcases hv4_1 with ⟨hi4_1, rfl⟩ | ⟨hi4_1, rfl⟩
          · skip
            refine xl_pure rfl rfl rfl (pv_not rfl rfl) ?_
            refine xl_pure rfl rfl rfl (pv_move (v := .bool _) rfl rfl) ?_
            refine xl_pure rfl rfl rfl (pv_move (v := .int _ _) rfl rfl) ?_
            refine xl_heavy rfl rfl rfl (hv_call (g := 29) rfl rfl (c29 (q) (1) (1000)) rfl) ?_
            rintro v4_5 H4_5 ⟨hv4_5, rfl⟩
            rcases hv4_5 with ⟨hi4_5, rfl⟩ | ⟨hi4_5, rfl⟩
            · skip
              refine xl_pure rfl rfl rfl (pv_not rfl rfl) ?_
              refine xl_pure rfl rfl rfl (pv_pick_f (v := .bool _) rfl rfl rfl) ?_
              refine xl_pure rfl rfl rfl (pv_assign (v := .bool _) rfl rfl) ?_
              refine xl_nil ?_
              refine xthen_normal ?_
              refine xc_cond_f rfl ?_
              refine xc_seq ?_
              refine xc_region ?_
              refine xl_pure rfl rfl rfl (pv_fieldAddr rfl rfl) ?_
              refine xl_light rfl rfl rfl (lv_load (v := .int _ _) rfl rfl (ld_blk m1_6 rfl)) ?_
              refine xl_ndec rfl rfl rfl (pv_neq rfl rfl rfl) (fun h6_2 => ?_) (fun h6_2 => ?_)
              · skip
                refine xl_pure rfl rfl rfl (pv_assign (v := .bool _) rfl rfl) ?_
                refine xl_nil ?_
                refine xthen_normal ?_
                refine xc_cond_f rfl ?_
                refine xc_seq ?_
                refine xc_region ?_
                refine xl_pure rfl rfl rfl (pv_move (v := .pointer _) rfl rfl) ?_
                refine xl_pure rfl rfl rfl (pv_move (v := .int _ _) rfl rfl) ?_
                refine xl_heavy rfl rfl rfl (hv_call (g := 19) rfl rfl (c19 mp hR hc hna hl hg hg0 hg1 p (by omega) (by omega)) rfl) ?_
                rintro v8_2 H8_2 ⟨hv8_2, rfl⟩
                rcases hv8_2 with ⟨hi8_2, rfl⟩ | ⟨hi8_2, rfl⟩
                · skip
                  refine xl_pure rfl rfl rfl (pv_not rfl rfl) ?_
                  refine xl_pure rfl rfl rfl (pv_assign (v := .bool _) rfl rfl) ?_
                  refine xl_nil ?_
                  refine xthen_normal ?_
                  refine xc_cond_f rfl ?_
                  refine xc_skip ?_
                  refine xblock_normal ?_
                  refine xthen_normal ?_
                  refine xc_seq ?_
                  refine xc_region ?_
                  refine xl_pure rfl rfl rfl (pv_move (v := .int _ _) rfl rfl) ?_
                  refine xl_pure rfl rfl rfl (pv_fieldAddr rfl rfl) ?_
                  refine xl_store rfl rfl (hv_store (vs := [.int _ _]) rfl rfl rfl (m1_6) rfl (Nat.le_of_ble_eq_true rfl) rfl) ?_
                  rintro v10_2 H10_2 ⟨hU10_2, hZ10_2⟩
                  have mp := mp.off hU10_2.but (by first | exact nmp_1_6 | exact ⟨mp.ne m1_6 rfl⟩ | exact ⟨mp.ne m1_6 (by assumption)⟩ | exact ⟨Ne.symm (m1_6.ne mp (by assumption))⟩)
                  have hR := hR.offT m1_6 hU10_2.but (by first | rfl | assumption)
                  have hX := hX.upd hU10_2.but gb1_6
                  have m1_6 := hU10_2.blk
                  refine xl_pure rfl rfl rfl (pv_fieldAddr rfl rfl) ?_
                  refine xl_store rfl rfl (hv_store (vs := [.int _ _]) rfl rfl rfl (m1_6) rfl (Nat.le_of_ble_eq_true rfl) rfl) ?_
                  rintro v10_4 H10_4 ⟨hU10_4, hZ10_4⟩
                  have mp := mp.off hU10_4.but (by first | exact nmp_1_6 | exact ⟨mp.ne m1_6 rfl⟩ | exact ⟨mp.ne m1_6 (by assumption)⟩ | exact ⟨Ne.symm (m1_6.ne mp (by assumption))⟩)
                  have hR := hR.offT m1_6 hU10_4.but (by first | rfl | assumption)
                  have hX := hX.upd hU10_4.but gb1_6
                  have m1_6 := hU10_4.blk
                  replace m1_6 : Blk H10_4 b1_6 [.int .i64 d0, .int .i64 d1, .int .i64 d2, .int .i64 d3, .int .i64 d4, .int .i64 d5, .int .i64 d6, .int .i64 q, .int .i64 0] 23 := m1_6
                  refine xl_nil ?_
                  refine xthen_normal ?_
                  refine xc_seq ?_
                  have hID : IsD [d0, d1, d2, d3, d4, d5, d6, q, 0] := by have := isD_iff.1 hi; rw [isD_iff]; omega
                  refine xc_region ?_
                  refine xl_pure rfl rfl rfl (pv_assign (v := .slice _ _ _) rfl rfl) ?_
                  refine xl_nil ?_
                  refine xthen_normal ?_
                  refine xc_seq ?_
                  refine xc_seq ?_
                  refine xc_region ?_
                  refine xl_pure rfl rfl rfl (pv_move (v := .int _ _) rfl rfl) ?_
                  refine xl_pure rfl rfl rfl (pv_move (v := .int _ _) rfl rfl) ?_
                  refine xl_nil ?_
                  refine xthen_normal ?_
                  refine xc_block ?_
                  refine xc_loop (τ := Nat × Option Addr × Nat × Option Addr × Nat) (fun t => [(0, .pointer (some ⟨bp, 0, none⟩)), (10, .pointer (some ⟨b1_6, 0, none⟩)), (12, .slice t.2.2.2.1 t.1 t.2.2.2.2), (46, .int .i64 p), (47, .int .i64 (t.1 : Nat))]) (fun t H' => ((t.1 : Int) ≤ p) ∧ (Blk H' bp [.slice t.2.1 ((copL l g [d0, d1, d2, d3, d4, d5, d6, q, 0] t.1)).length t.2.2.1, .int .i64 (g + (t.1 : Nat))] 29) ∧ (RowsT H' 75 13 t.2.1 (copL l g [d0, d1, d2, d3, d4, d5, d6, q, 0] t.1)) ∧ ((copL l g [d0, d1, d2, d3, d4, d5, d6, q, 0] t.1).length ≤ t.2.2.1) ∧ (t.2.1 = none → t.2.2.1 = 0) ∧ (Goo (copL l g [d0, d1, d2, d3, d4, d5, d6, q, 0] t.1)) ∧ ((copL l g [d0, d1, d2, d3, d4, d5, d6, q, 0] t.1).length ≤ l.length + t.1) ∧ (Blk H' b1_6 [.int .i64 d0, .int .i64 d1, .int .i64 d2, .int .i64 d3, .int .i64 d4, .int .i64 d5, .int .i64 d6, .int .i64 q, .int .i64 0] 23) ∧ (Own H' H.size 3 1 (.slice t.2.2.2.1 t.1 t.2.2.2.2) t.1 (fr (idsR g t.1))) ∧ (But bp H H')) (fun t H' => (p - t.1).toNat) (0, a, c, none, 0) ?_ ?_ ?_
                  · exact ⟨rfl, rfl, rfl, rfl, rfl, trivial⟩
                  · skip
                    exact ⟨by omega, by rw [show g + ((0 : Nat) : Int) = g from Int.add_zero g]; exact mp, hR, hc, hna, hg, Nat.le_refl _, m1_6, by simpa [idsR, fr] using Own.nil _ H.size 3 1, hX⟩
                  · intro σ
                    clear hX mp hR m1_6
                    rintro ⟨i, a1, c1, va, vc⟩ Hl13 ⟨hip, mp, hR, hc1, hna1, hgL, hlL, m1_6, ho, hX⟩
                    replace hip : (i : Int) ≤ p := hip
                    replace mp : Blk Hl13 bp [.slice a1 ((copL l g [d0, d1, d2, d3, d4, d5, d6, q, 0] i)).length c1, .int .i64 (g + (i : Nat))] 29 := mp
                    replace hR : RowsT Hl13 75 13 a1 (copL l g [d0, d1, d2, d3, d4, d5, d6, q, 0] i) := hR
                    replace hc1 : (copL l g [d0, d1, d2, d3, d4, d5, d6, q, 0] i).length ≤ c1 := hc1
                    replace hna1 : a1 = none → c1 = 0 := hna1
                    replace hgL : Goo (copL l g [d0, d1, d2, d3, d4, d5, d6, q, 0] i) := hgL
                    replace hlL : (copL l g [d0, d1, d2, d3, d4, d5, d6, q, 0] i).length ≤ l.length + i := hlL
                    replace m1_6 : Blk Hl13 b1_6 [.int .i64 d0, .int .i64 d1, .int .i64 d2, .int .i64 d3, .int .i64 d4, .int .i64 d5, .int .i64 d6, .int .i64 q, .int .i64 0] 23 := m1_6
                    replace ho : Own Hl13 H.size 3 1 (.slice va i vc) i (fr (idsR g i)) := ho
                    replace hX : But bp H Hl13 := hX
                    show XC _ _ _ (upds σ [(0, .pointer (some ⟨bp, 0, none⟩)), (10, .pointer (some ⟨b1_6, 0, none⟩)), (12, .slice va i vc), (46, .int .i64 p), (47, .int .i64 (i : Nat))]) _
                    refine xc_seq ?_
                    refine xc_region ?_
                    refine xl_dec rfl rfl rfl (pv_lss rfl rfl rfl) (fun h13_0 => ?_) (fun h13_0 => ?_)
                    · skip
                      refine xl_nil ?_
                      refine xthen_normal ?_
                      refine xc_seq ?_
                      refine xc_cond_t rfl ?_
                      refine xc_skip ?_
                      refine xthen_normal ?_
                      refine xc_seq ?_
                      refine xc_block ?_
                      refine xc_seq ?_
                      refine xc_region ?_
                      refine xl_pure rfl rfl rfl (pv_move (v := .pointer _) rfl rfl) ?_
                      refine xl_light rfl rfl rfl (lv_load (v := .agg _) rfl rfl (ld_blk_a m1_6 rfl rfl)) ?_
                      refine xl_heavy rfl rfl rfl (hv_call (g := 6) rfl rfl (c6 mp hR hc1 hna1 (by omega) hgL (by omega) (by omega) d0 d1 d2 d3 d4 d5 d6 q 0) rfl) ?_
                      rintro v14_2 H14_2 ⟨a14_2, c14_2, L14_2, g14_2, n14_2, e14_2, rfl, ⟨hB14_2, hT14_2, hR14_2, hc14_2, hna14_2⟩, hA14_2⟩
                      have hR := hR.offT mp hB14_2 (by first | rfl | assumption)
                      have m1_6 := m1_6.off hB14_2 (by first | exact nmp_1_6.symm | exact ⟨m1_6.ne mp rfl⟩ | exact ⟨m1_6.ne mp (by assumption)⟩ | exact ⟨Ne.symm (mp.ne m1_6 (by assumption))⟩)
                      have ho := ho.offU mp hB14_2 (.inl rfl)
                      have hX := hX.trans hB14_2
                      have mp := hT14_2
                      obtain ⟨rfl, rfl, rfl, rfl⟩ := add_ok hA14_2 hID rfl (by omega) (by omega)
                      refine xl_pure rfl rfl rfl (pv_move (v := .tuple _) rfl rfl) ?_
                      refine xl_pure rfl rfl rfl (pv_extract (v := .int _ _) rfl rfl rfl) ?_
                      refine xl_pure rfl rfl rfl (pv_extract (v := .int _ _) rfl rfl rfl) ?_
                      refine xl_pure rfl rfl rfl (pv_assign (v := .int _ _) rfl rfl) ?_
                      refine xl_pure rfl rfl rfl (pv_assign (v := .int _ _) rfl rfl) ?_
                      refine xl_nil ?_
                      refine xthen_normal ?_
                      refine xc_region ?_
                      refine xl_pure rfl rfl rfl (pv_move (v := .slice _ _ _) rfl rfl) ?_
                      refine xl_pure rfl rfl rfl (pv_move (v := .int _ _) rfl rfl) ?_
                      refine xl_heavy rfl rfl rfl (hv_buildSlice (cs := [.int _ _]) rfl rfl rfl rfl rfl) ?_
                      rintro v15_2 H15_2 ⟨b15_2, rfl, hN15_2⟩
                      have gb15_2 := hX.fresh hN15_2
                      have nmp_15_2 := mp.apart hN15_2
                      have nm1_6_15_2 := m1_6.apart hN15_2
                      have pm15_2_ho := ho.apartN hN15_2
                      have mp := mp.ext hN15_2.ext
                      have hR := hR.ext hN15_2.ext
                      have m1_6 := m1_6.ext hN15_2.ext
                      have ho := ho.ext hN15_2.ext
                      have hR14_2 := hR14_2.ext hN15_2.ext
                      have hX := hX.transE hN15_2.ext
                      have m15_2 := hN15_2.blk
                      refine xl_heavy rfl rfl rfl (hv_append rfl rfl ho rfl (m15_2.row) rfl (by simp [Value.oneCell']) rfl (by decide) (by omega) (by omega) hX.size) ?_
                      rintro v15_3 H15_3 ⟨hO15_3, hG15_3, -, hB15_3⟩
                      have mp := mp.offT ho hG15_3 rfl
                      have hR := hR.growT ho hG15_3 (by first | rfl | assumption)
                      have m1_6 := m1_6.offT ho hG15_3 rfl
                      have hR14_2 := hR14_2.growT ho hG15_3 (by first | rfl | assumption)
                      have hX := ho.grownB hX hG15_3 (Nat.le_refl _)
                      obtain ⟨a15_3, c15_3, rfl⟩ := hO15_3.val
                      refine xl_pure rfl rfl rfl (pv_assign (v := .slice _ _ _) rfl rfl) ?_
                      refine xl_nil ?_
                      refine xblock_normal ?_
                      refine xthen_normal ?_
                      refine xc_region ?_
                      refine xl_pure rfl rfl rfl (pv_add rfl rfl rfl (fit_i64 (by omega))) ?_
                      refine xl_pure rfl rfl rfl (pv_move (v := .int _ _) rfl rfl) ?_
                      refine xl_nil ?_
                      refine xthen_normal ?_
                      exact ⟨(i + 1, _, _, _, _), ⟨rfl, rfl, rfl, rfl, rfl, trivial⟩, ⟨by (try simp only); omega, by rw [show g + ((i + 1 : Nat) : Int) = g + (i : Nat) + 1 by omega]; exact mp, hR14_2, hc14_2, hna14_2, hgL.put rfl (show IsD [g + (i : Nat) + 1, d1, d2, d3, d4, d5, d6, q, 0] from hID), Nat.le_trans (put_len _ _) (by omega), m1_6, by rw [ids_next, show g + 1 + (i : Int) = g + (i : Nat) + 1 by omega]; exact hO15_3, hX⟩, by (try simp only); omega⟩
                    · skip
                      refine xl_nil ?_
                      refine xthen_normal ?_
                      refine xc_seq ?_
                      refine xc_cond_f rfl ?_
                      refine xc_exit ?_
                      refine xthen_exit ?_
                      refine xthen_exit ?_
                      refine xblock_same ?_
                      refine xthen_normal ?_
                      refine xc_seq ?_
                      refine xc_region ?_
                      refine xl_pure rfl rfl rfl (pv_move (v := .slice _ _ _) rfl rfl) ?_
                      refine xl_pure rfl rfl rfl (pv_assign (v := .slice _ _ _) rfl rfl) ?_
                      refine xl_pure rfl rfl rfl (pv_assign (v := .int _ _) rfl rfl) ?_
                      refine xl_nil ?_
                      refine xthen_normal ?_
                      refine xc_ret ?_
                      refine fin_ret (res2 (v := .slice _ _ _) (x := .int _ _) rfl rfl rfl) ?_
                      have hip2 : p = (i : Nat) := by omega
                      have hpi : p.toNat = i := by omega
                      exact ⟨a1, c1, va, vc, (copL l g [d0, d1, d2, d3, d4, d5, d6, q, 0] i), g + (i : Nat), idsR g i, 0, by rw [ids_len], ⟨hX, mp, hR, hc1, hna1⟩, own_rowsT wide_ids (by rw [ids_len]; exact ho), .inr ⟨rfl, by rw [ids_len]; omega, hgL, by omega, by omega, by omega, fun k hk => gr_ids (by rw [ids_len] at hk; exact hk)⟩, fun _ => ⟨rfl, by rw [hpi], by rw [hip2], by rw [hpi, hd]; rfl⟩⟩
                · skip
                  refine xl_pure rfl rfl rfl (pv_not rfl rfl) ?_
                  refine xl_pure rfl rfl rfl (pv_assign (v := .bool _) rfl rfl) ?_
                  refine xl_nil ?_
                  refine xthen_normal ?_
                  refine xc_cond_t rfl ?_
                  refine xc_seq ?_
                  refine xc_region ?_
                  refine xl_pure rfl rfl rfl (pv_assign (v := .slice _ _ _) rfl rfl) ?_
                  refine xl_pure rfl rfl rfl (pv_assign (v := .int _ _) rfl rfl) ?_
                  refine xl_nil ?_
                  refine xthen_normal ?_
                  refine xc_ret ?_
                  refine xblock_ret ?_
                  refine xthen_ret ?_
                  refine fin_ret (res2 (v := .slice _ _ _) (x := .int _ _) rfl rfl rfl) ?_
                  exact ⟨a, c, none, 0, l, g, [], 4, rfl, ⟨hX, mp, hR, hc, hna⟩, RowsT.nil, .inl ⟨by decide, rfl, rfl, by decide⟩, fun hc => by exact absurd hc.2.2.2.2 (by assumption)⟩
              · skip
                refine xl_pure rfl rfl rfl (pv_assign (v := .bool _) rfl rfl) ?_
                refine xl_nil ?_
                refine xthen_normal ?_
                refine xc_cond_t rfl ?_
                refine xc_seq ?_
                refine xc_region ?_
                refine xl_pure rfl rfl rfl (pv_assign (v := .slice _ _ _) rfl rfl) ?_
                refine xl_pure rfl rfl rfl (pv_assign (v := .int _ _) rfl rfl) ?_
                refine xl_nil ?_
                refine xthen_normal ?_
                refine xc_ret ?_
                refine xblock_ret ?_
                refine xthen_ret ?_
                refine fin_ret (res2 (v := .slice _ _ _) (x := .int _ _) rfl rfl rfl) ?_
                exact ⟨a, c, none, 0, l, g, [], 9, rfl, ⟨hX, mp, hR, hc, hna⟩, RowsT.nil, .inl ⟨by decide, rfl, rfl, by decide⟩, fun hc => by have := hc.2.2.2.1; rw [hd] at this; exact absurd this h6_2⟩
            · skip
              refine xl_pure rfl rfl rfl (pv_not rfl rfl) ?_
              refine xl_pure rfl rfl rfl (pv_pick_f (v := .bool _) rfl rfl rfl) ?_
              refine xl_pure rfl rfl rfl (pv_assign (v := .bool _) rfl rfl) ?_
              refine xl_nil ?_
              refine xthen_normal ?_
              refine xc_cond_t rfl ?_
              refine xc_seq ?_
              refine xc_region ?_
              refine xl_pure rfl rfl rfl (pv_assign (v := .slice _ _ _) rfl rfl) ?_
              refine xl_pure rfl rfl rfl (pv_assign (v := .int _ _) rfl rfl) ?_
              refine xl_nil ?_
              refine xthen_normal ?_
              refine xc_ret ?_
              refine xblock_ret ?_
              refine xthen_ret ?_
              refine fin_ret (res2 (v := .slice _ _ _) (x := .int _ _) rfl rfl rfl) ?_
              exact ⟨a, c, none, 0, l, g, [], 1, rfl, ⟨hX, mp, hR, hc, hna⟩, RowsT.nil, .inl ⟨by decide, rfl, rfl, by decide⟩, fun hc => by first | exact absurd hc.2.1 (by assumption) | exact absurd hc.2.2.1 (by assumption)⟩
          · skip
            refine xl_pure rfl rfl rfl (pv_not rfl rfl) ?_
            refine xl_pure rfl rfl rfl (pv_move (v := .bool _) rfl rfl) ?_
            refine xl_skip rfl rfl rfl ?_
            refine xl_skip rfl rfl rfl ?_
            refine xl_skip rfl rfl rfl ?_
            refine xl_pure rfl rfl rfl (pv_pick_t (v := .bool _) rfl rfl rfl) ?_
            refine xl_pure rfl rfl rfl (pv_assign (v := .bool _) rfl rfl) ?_
            refine xl_nil ?_
            refine xthen_normal ?_
            refine xc_cond_t rfl ?_
            refine xc_seq ?_
            refine xc_region ?_
            refine xl_pure rfl rfl rfl (pv_assign (v := .slice _ _ _) rfl rfl) ?_
            refine xl_pure rfl rfl rfl (pv_assign (v := .int _ _) rfl rfl) ?_
            refine xl_nil ?_
            refine xthen_normal ?_
            refine xc_ret ?_
            refine xblock_ret ?_
            refine xthen_ret ?_
            refine fin_ret (res2 (v := .slice _ _ _) (x := .int _ _) rfl rfl rfl) ?_
            exact ⟨a, c, none, 0, l, g, [], 1, rfl, ⟨hX, mp, hR, hc, hna⟩, RowsT.nil, .inl ⟨by decide, rfl, rfl, by decide⟩, fun hc => by first | exact absurd hc.2.1 (by assumption) | exact absurd hc.2.2.1 (by assumption)⟩)
    · first
      | (exfalso; omega)
      |  (skip
          refine xl_pure rfl rfl rfl (pv_assign (v := .bool _) rfl rfl) ?_
          refine xl_nil ?_
          refine xthen_normal ?_
          refine xc_cond_t rfl ?_
          refine xc_seq ?_
          refine xc_region ?_
          refine xl_pure rfl rfl rfl (pv_move (v := .int _ _) rfl rfl) ?_
          refine xl_pure rfl rfl rfl (pv_assign (v := .slice _ _ _) rfl rfl) ?_
          refine xl_pure rfl rfl rfl (pv_assign (v := .int _ _) rfl rfl) ?_
          refine xl_nil ?_
          refine xthen_normal ?_
          refine xc_ret ?_
          refine xblock_ret ?_
          refine xthen_ret ?_
          refine fin_ret (res2 (v := .slice _ _ _) (x := .int _ _) rfl rfl rfl) ?_
          exact ⟨a, c, none, 0, l, g, [], 3, rfl, ⟨hX, mp, hR, hc, hna⟩, RowsT.nil, .inl ⟨by decide, rfl, rfl, by decide⟩, fun hc => by have := hc.1; rw [hh] at this; exact absurd this (by decide)⟩)

theorem c22n {O : Outer} {H : Heap} (o p q : Int) :
    FnC Try.prog 22 #[.pointer none, .int .i64 o, .int .i64 p, .int .i64 q] O H (fun v H' => v = .tuple #[.slice none 0 0, .int .i64 1] ∧ Ext H H') := by
  refine fn_enter (A := [.pointer none, .int .i64 o, .int .i64 p, .int .i64 q]) Try.func22 rfl rfl ?_
  have hX := Ext.refl H
  refine xc_seq ?_
  refine xc_region ?_
  refine xl_pure rfl rfl rfl (pv_assign (v := .slice _ _ _) rfl rfl) ?_
  refine xl_pure rfl rfl rfl (pv_assign (v := .int _ _) rfl rfl) ?_
  refine xl_nil ?_
  refine xthen_normal ?_
  refine xc_seq ?_
  refine xc_region ?_
  refine xl_pure rfl rfl rfl (pv_move (v := .pointer _) rfl rfl) ?_
  refine xl_pure rfl rfl rfl (pv_move (v := .int _ _) rfl rfl) ?_
  refine xl_heavy rfl rfl rfl (hv_call (g := 8) rfl rfl (c8n o) rfl) ?_
  rintro v1_2 H1_2 ⟨rfl, hE1_2⟩
  have hX := hX.trans hE1_2
  refine xl_pure rfl rfl rfl (pv_move (v := .tuple _) rfl rfl) ?_
  refine xl_pure rfl rfl rfl (pv_extract (v := .agg _) rfl rfl rfl) ?_
  refine xl_pure rfl rfl rfl (pv_extract (v := .int _ _) rfl rfl rfl) ?_
  refine xl_heavy rfl rfl rfl (hv_alloc rfl rfl) ?_
  rintro v1_6 H1_6 ⟨b1_6, rfl, hN1_6⟩
  have gb1_6 := hX.fresh hN1_6
  have hX := hX.trans hN1_6.ext
  have m1_6 := hN1_6.blk
  refine xl_store rfl rfl (hv_storeA (vs := [.int _ _, .int _ _, .int _ _, .int _ _, .int _ _, .int _ _, .int _ _, .int _ _, .int _ _]) rfl rfl rfl (m1_6) rfl (by rfl) rfl) ?_
  rintro v1_7 H1_7 ⟨hU1_7, hZ1_7⟩
  have hX := hX.upd hU1_7.but gb1_6
  have m1_6 := hU1_7.blk
  refine xl_pure rfl rfl rfl (pv_assign (v := .int _ _) rfl rfl) ?_
  refine xl_nil ?_
  refine xthen_normal ?_
  refine xc_seq ?_
  refine xc_block ?_
  refine xc_seq ?_
  refine xc_region ?_
  refine xl_pure rfl rfl rfl (pv_move (v := .int _ _) rfl rfl) ?_
  refine xl_ndec rfl rfl rfl (pv_neq rfl rfl rfl) (fun h2_1 => ?_) (fun h2_1 => ?_)
  · exact absurd h2_1 (by decide)
  · skip
    refine xl_pure rfl rfl rfl (pv_assign (v := .bool _) rfl rfl) ?_
    refine xl_nil ?_
    refine xthen_normal ?_
    refine xc_cond_t rfl ?_
    refine xc_seq ?_
    refine xc_region ?_
    refine xl_pure rfl rfl rfl (pv_move (v := .int _ _) rfl rfl) ?_
    refine xl_pure rfl rfl rfl (pv_assign (v := .slice _ _ _) rfl rfl) ?_
    refine xl_pure rfl rfl rfl (pv_assign (v := .int _ _) rfl rfl) ?_
    refine xl_nil ?_
    refine xthen_normal ?_
    refine xc_ret ?_
    refine xblock_ret ?_
    refine xthen_ret ?_
    refine fin_ret (res2 (v := .slice _ _ _) (x := .int _ _) rfl rfl rfl) ?_
    exact ⟨rfl, hX⟩
end Go.XG
