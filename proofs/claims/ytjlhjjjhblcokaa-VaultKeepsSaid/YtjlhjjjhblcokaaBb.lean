/-
  Walks of the seat's functions over the logic XG: each function, what it computes. Printed by a program out of wip/walks.py.
-/
import Derived.Test.YtjlhjjjhblcokaaI
import Derived.Test.YtjlhjjjhblcokaaXs
import Derived.Test.YtjlhjjjhblcokaaTo
import Derived.Test.YtjlhjjjhblcokaaTa
import Derived.Test.YtjlhjjjhblcokaaTb
import Derived.Test.YtjlhjjjhblcokaaKb
import Derived.Test.YtjlhjjjhblcokaaBa
namespace Go.XG
open Go.Proofs
set_option maxRecDepth 20000
set_option maxHeartbeats 4000000
theorem c40 {O : Outer} {H : Heap} {bp c : Nat} {a : Option Addr} {l : List (List Int)} {T : List Int} (mp : Blk H bp (.slice a (l).length c :: ints (T)) 87) (hR : RowsT H 138 5 a l) (hc : l.length ≤ c) (hna : a = none → c = 0) (hl : l.length < 1000000) (hg : GooL l) (ht : Tots l T) (k0 k1 k2 k3 : Int) (n : Int) (hn : n < 9223372036854775808) :
    FnC Try.prog 40 #[.pointer (some ⟨bp, 0, none⟩), .agg #[.int .i64 k0, .int .i64 k1, .int .i64 k2, .int .i64 k3], .int .i64 n] O H (fun v H' => ∃ a' c' T', v = .int .i64 (layE l [k0, k1, k2, k3] n) ∧ But bp H H' ∧ Blk H' bp (.slice a' (layX l [k0, k1, k2, k3] n).length c' :: ints (T')) 87 ∧ RowsT H' 138 5 a' (layX l [k0, k1, k2, k3] n) ∧ (layX l [k0, k1, k2, k3] n).length ≤ c' ∧ (a' = none → c' = 0) ∧ Tots (layX l [k0, k1, k2, k3] n) T') := by
  refine fn_enter (A := [.pointer (some ⟨bp, 0, none⟩), .agg #[.int .i64 k0, .int .i64 k1, .int .i64 k2, .int .i64 k3], .int .i64 n]) Try.func40 rfl rfl ?_
  have hX := But.refl bp H
  refine xc_seq ?_
  refine xc_region ?_
  refine xl_heavy rfl rfl rfl (hv_box rfl rfl) ?_
  rintro v0_0 H0_0 ⟨b0_0, rfl, hN0_0⟩
  have gb0_0 := hX.fresh hN0_0
  have nmp_0_0 := mp.apart hN0_0
  have mp := mp.ext hN0_0.ext
  have hR := hR.ext hN0_0.ext
  have hX := hX.transE hN0_0.ext
  have m0_0 := hN0_0.blk
  refine xl_pure rfl rfl rfl (pv_assign (v := .int _ _) rfl rfl) ?_
  refine xl_nil ?_
  refine xthen_normal ?_
  refine xc_seq ?_
  refine xc_block ?_
  refine xc_seq ?_
  refine xc_region ?_
  refine xl_pure rfl rfl rfl (pv_move (v := .pointer _) rfl rfl) ?_
  refine xl_pure rfl rfl rfl (pv_eql_pn rfl rfl rfl) ?_
  refine xl_pure rfl rfl rfl (pv_move (v := .bool _) rfl rfl) ?_
  refine xl_light rfl rfl rfl (lv_load (v := .agg _) rfl rfl (ld_blk_a m0_0 rfl rfl)) ?_
  refine xl_heavy rfl rfl rfl (hv_call (g := 44) rfl rfl (c44 k0 k1 k2 k3) rfl) ?_
  rintro v1_4 H1_4 ⟨hv1_4, hE1_4⟩
  have mp := mp.ext hE1_4
  have hR := hR.ext hE1_4
  have m0_0 := m0_0.ext hE1_4
  have hX := hX.transE hE1_4
  rcases hv1_4 with ⟨hi1_4, rfl⟩ | ⟨hi1_4, rfl⟩
  · skip
    refine xl_pure rfl rfl rfl (pv_not rfl rfl) ?_
    refine xl_pure rfl rfl rfl (pv_pick_f (v := .bool _) rfl rfl rfl) ?_
    refine xl_pure rfl rfl rfl (pv_move (v := .bool _) rfl rfl) ?_
    refine xl_pure rfl rfl rfl (pv_move (v := .int _ _) rfl rfl) ?_
    refine xl_dec rfl rfl rfl (pv_lss rfl rfl rfl) (fun h1_9 => ?_) (fun h1_9 => ?_)
    · skip
      refine xl_pure rfl rfl rfl (pv_pick_f (v := .bool _) rfl rfl rfl) ?_
      refine xl_pure rfl rfl rfl (pv_assign (v := .bool _) rfl rfl) ?_
      refine xl_nil ?_
      refine xthen_normal ?_
      refine xc_cond_t rfl ?_
      refine xc_seq ?_
      refine xc_region ?_
      refine xl_pure rfl rfl rfl (pv_assign (v := .int _ _) rfl rfl) ?_
      refine xl_nil ?_
      refine xthen_normal ?_
      refine xc_ret ?_
      refine xblock_ret ?_
      refine xthen_ret ?_
      refine fin_ret (res1 (v := .int _ _) rfl rfl) ?_
      obtain ⟨e1, e2⟩ := lay_arg (l := l) (k := [k0, k1, k2, k3]) (n := n) (by first | exact .inl hi1_4 | exact .inr (by omega))
      exact ⟨a, c, T, by rw [e1], hX, by rw [e2]; exact mp, by rw [e2]; exact hR, by rw [e2]; exact hc, hna, by rw [e2]; exact ht⟩
    · skip
      refine xl_pure rfl rfl rfl (pv_pick_f (v := .bool _) rfl rfl rfl) ?_
      refine xl_pure rfl rfl rfl (pv_assign (v := .bool _) rfl rfl) ?_
      refine xl_nil ?_
      refine xthen_normal ?_
      refine xc_cond_f rfl ?_
      refine xc_seq ?_
      have hkb := isB_iff.1 hi1_4
      have hq := hg.qty (k := [k0, k1, k2, k3]) rfl
      have hq3 : totB l k3 ≤ 1125899906842624 := hg.max k3
      have hq2 : qtyB l [k0, k1, k2, k3] ≤ totB l k3 := hq.2
      have htt := ht.h k3 hkb.2.2.2.1 hkb.2.2.2.2
      refine xp_start rfl (by repeat (first | with_reducible exact np_fin | with_reducible exact np_ret | with_reducible refine np_then ?_ | with_reducible refine np_block ?_)) (by kernel_rfl) ?_
      refine xp_pure (i := 0) rfl (by kernel_rfl) (by kernel_rfl) rfl rfl rfl (pv_move (v := .int _ _) rfl rfl) ?_
      refine xp_pure (i := 1) rfl (by kernel_rfl) (by kernel_rfl) rfl rfl rfl (pv_move (v := .pointer _) rfl rfl) ?_
      refine xp_pure (i := 2) rfl (by kernel_rfl) (by kernel_rfl) rfl rfl rfl (pv_fieldAddr rfl rfl) ?_
      refine xp_light (i := 3) rfl (by kernel_rfl) (by kernel_rfl) rfl rfl rfl (lv_load (v := .int _ _) rfl rfl (ld_blk m0_0 rfl)) ?_
      refine xp_pure (i := 4) rfl (by kernel_rfl) (by kernel_rfl) rfl rfl rfl (pv_nilCheck_p rfl rfl) ?_
      refine xp_pure (i := 5) rfl (by kernel_rfl) (by kernel_rfl) rfl rfl rfl (pv_fieldAddr rfl rfl) ?_
      refine xp_pure (i := 6) rfl (by kernel_rfl) (by kernel_rfl) rfl rfl rfl (pv_indexAddr_a rfl rfl rfl (by omega)) ?_
      refine xp_light (i := 7) rfl (by kernel_rfl) (by kernel_rfl) rfl rfl rfl (lv_load (v := .int _ _) rfl rfl (by exact ld_tot mp (by have := ht.len; omega))) ?_
      refine xp_pure (i := 8) rfl (by kernel_rfl) (by kernel_rfl) rfl rfl rfl (pv_sub rfl rfl rfl (fit_i64 (by omega))) ?_
      refine xp_dec (i := 9) rfl (by kernel_rfl) (by kernel_rfl) rfl rfl rfl (pv_gtr rfl rfl rfl) (fun h3_9 => ?_) (fun h3_9 => ?_)
      · skip
        refine xp_pure (i := 10) rfl (by kernel_rfl) (by kernel_rfl) rfl rfl rfl (pv_assign (v := .bool _) rfl rfl) ?_
        refine xp_done (by kernel_rfl) ?_
        refine xthen_normal ?_
        refine xc_cond_t rfl ?_
        refine xc_seq ?_
        refine xc_region ?_
        refine xl_pure rfl rfl rfl (pv_assign (v := .int _ _) rfl rfl) ?_
        refine xl_nil ?_
        refine xthen_normal ?_
        refine xc_ret ?_
        refine xblock_ret ?_
        refine xthen_ret ?_
        refine fin_ret (res1 (v := .int _ _) rfl rfl) ?_
        obtain ⟨e1, e2⟩ := lay_over (l := l) (k := [k0, k1, k2, k3]) (n := n) (by rintro (h | h); exact h hi1_4; omega) (show 1125899906842624 - totB l k3 < n by omega)
        exact ⟨a, c, T, by rw [e1], hX, by rw [e2]; exact mp, by rw [e2]; exact hR, by rw [e2]; exact hc, hna, by rw [e2]; exact ht⟩
      · skip
        refine xp_pure (i := 10) rfl (by kernel_rfl) (by kernel_rfl) rfl rfl rfl (pv_assign (v := .bool _) rfl rfl) ?_
        refine xp_done (by kernel_rfl) ?_
        refine xthen_normal ?_
        refine xc_cond_f rfl ?_
        refine xc_skip ?_
        refine xblock_normal ?_
        refine xthen_normal ?_
        refine xc_seq ?_
        refine xc_region ?_
        refine xl_pure rfl rfl rfl (pv_move (v := .pointer _) rfl rfl) ?_
        refine xl_light rfl rfl rfl (lv_load (v := .agg _) rfl rfl (ld_blk_a m0_0 rfl rfl)) ?_
        refine xl_pure rfl rfl rfl (pv_move (v := .int _ _) rfl rfl) ?_
        refine xl_heavy rfl rfl rfl (hv_call (g := 74) rfl rfl (c74 mp hR hc hna hl hg.srt ht.len k0 k1 k2 k3 n ⟨hkb.2.2.2.1, hkb.2.2.2.2⟩ ⟨by omega, by omega⟩ ⟨by omega, by omega⟩ ⟨by omega, by omega⟩) rfl) ?_
        rintro v5_3 H5_3 ⟨a5_3, c5_3, hB5_3, hT5_3, hR5_3, hc5_3, hna5_3⟩
        have hR := hR.offT mp hB5_3 (by first | rfl | assumption)
        have m0_0 := m0_0.off hB5_3 (by first | exact nmp_0_0.symm | exact ⟨m0_0.ne mp rfl⟩ | exact ⟨m0_0.ne mp (by assumption)⟩ | exact ⟨Ne.symm (mp.ne m0_0 (by assumption))⟩)
        have hX := hX.trans hB5_3
        have mp := hT5_3
        refine xl_nil ?_
        refine xthen_normal ?_
        refine xc_seq ?_
        refine xc_region ?_
        refine xl_pure rfl rfl rfl (pv_assign (v := .int _ _) rfl rfl) ?_
        refine xl_nil ?_
        refine xthen_normal ?_
        refine xc_ret ?_
        refine fin_ret (res1 (v := .int _ _) rfl rfl) ?_
        obtain ⟨e1, e2⟩ := lay_ok (l := l) (k := [k0, k1, k2, k3]) (n := n) (by rintro (h | h); exact h hi1_4; omega) (show ¬ 1125899906842624 - totB l k3 < n by omega)
        exact ⟨_, _, _, by rw [e1], hX, by rw [e2]; exact mp, by rw [e2]; exact hR5_3, by rw [e2]; exact hc5_3, hna5_3, by rw [e2]; exact ht.set hg.srt hg.wide (k := [k0, k1, k2, k3]) rfl ⟨hkb.2.2.2.1, hkb.2.2.2.2⟩⟩
  · skip
    refine xl_pure rfl rfl rfl (pv_not rfl rfl) ?_
    refine xl_pure rfl rfl rfl (pv_pick_f (v := .bool _) rfl rfl rfl) ?_
    refine xl_pure rfl rfl rfl (pv_move (v := .bool _) rfl rfl) ?_
    refine xl_skip rfl rfl rfl ?_
    refine xl_skip rfl rfl rfl ?_
    refine xl_pure rfl rfl rfl (pv_pick_t (v := .bool _) rfl rfl rfl) ?_
    refine xl_pure rfl rfl rfl (pv_assign (v := .bool _) rfl rfl) ?_
    refine xl_nil ?_
    refine xthen_normal ?_
    refine xc_cond_t rfl ?_
    refine xc_seq ?_
    refine xc_region ?_
    refine xl_pure rfl rfl rfl (pv_assign (v := .int _ _) rfl rfl) ?_
    refine xl_nil ?_
    refine xthen_normal ?_
    refine xc_ret ?_
    refine xblock_ret ?_
    refine xthen_ret ?_
    refine fin_ret (res1 (v := .int _ _) rfl rfl) ?_
    obtain ⟨e1, e2⟩ := lay_arg (l := l) (k := [k0, k1, k2, k3]) (n := n) (by first | exact .inl hi1_4 | exact .inr (by omega))
    exact ⟨a, c, T, by rw [e1], hX, by rw [e2]; exact mp, by rw [e2]; exact hR, by rw [e2]; exact hc, hna, by rw [e2]; exact ht⟩

theorem c62 {O : Outer} {H : Heap} {bp c : Nat} {a : Option Addr} {l : List (List Int)} {T : List Int} (mp : Blk H bp (.slice a (l).length c :: ints (T)) 87) (hR : RowsT H 138 5 a l) (hc : l.length ≤ c) (hna : a = none → c = 0) (hl : l.length < 1000000) (hg : GooL l) (ht : Tots l T) (k0 k1 k2 k3 : Int) (n : Int) :
    FnC Try.prog 62 #[.pointer (some ⟨bp, 0, none⟩), .agg #[.int .i64 k0, .int .i64 k1, .int .i64 k2, .int .i64 k3], .int .i64 n] O H (fun v H' => ∃ a' c' T', v = .int .i64 (takE l [k0, k1, k2, k3] n) ∧ But bp H H' ∧ Blk H' bp (.slice a' (takX l [k0, k1, k2, k3] n).length c' :: ints (T')) 87 ∧ RowsT H' 138 5 a' (takX l [k0, k1, k2, k3] n) ∧ (takX l [k0, k1, k2, k3] n).length ≤ c' ∧ (a' = none → c' = 0) ∧ Tots (takX l [k0, k1, k2, k3] n) T') := by
  refine fn_enter (A := [.pointer (some ⟨bp, 0, none⟩), .agg #[.int .i64 k0, .int .i64 k1, .int .i64 k2, .int .i64 k3], .int .i64 n]) Try.func62 rfl rfl ?_
  have hX := But.refl bp H
  refine xc_seq ?_
  refine xc_region ?_
  refine xl_heavy rfl rfl rfl (hv_box rfl rfl) ?_
  rintro v0_0 H0_0 ⟨b0_0, rfl, hN0_0⟩
  have gb0_0 := hX.fresh hN0_0
  have nmp_0_0 := mp.apart hN0_0
  have mp := mp.ext hN0_0.ext
  have hR := hR.ext hN0_0.ext
  have hX := hX.transE hN0_0.ext
  have m0_0 := hN0_0.blk
  refine xl_pure rfl rfl rfl (pv_assign (v := .int _ _) rfl rfl) ?_
  refine xl_nil ?_
  refine xthen_normal ?_
  refine xc_seq ?_
  refine xc_block ?_
  refine xc_seq ?_
  refine xc_region ?_
  refine xl_pure rfl rfl rfl (pv_move (v := .pointer _) rfl rfl) ?_
  refine xl_pure rfl rfl rfl (pv_eql_pn rfl rfl rfl) ?_
  refine xl_pure rfl rfl rfl (pv_move (v := .bool _) rfl rfl) ?_
  refine xl_light rfl rfl rfl (lv_load (v := .agg _) rfl rfl (ld_blk_a m0_0 rfl rfl)) ?_
  refine xl_heavy rfl rfl rfl (hv_call (g := 44) rfl rfl (c44 k0 k1 k2 k3) rfl) ?_
  rintro v1_4 H1_4 ⟨hv1_4, hE1_4⟩
  have mp := mp.ext hE1_4
  have hR := hR.ext hE1_4
  have m0_0 := m0_0.ext hE1_4
  have hX := hX.transE hE1_4
  rcases hv1_4 with ⟨hi1_4, rfl⟩ | ⟨hi1_4, rfl⟩
  · skip
    refine xl_pure rfl rfl rfl (pv_not rfl rfl) ?_
    refine xl_pure rfl rfl rfl (pv_pick_f (v := .bool _) rfl rfl rfl) ?_
    refine xl_pure rfl rfl rfl (pv_move (v := .bool _) rfl rfl) ?_
    refine xl_pure rfl rfl rfl (pv_move (v := .int _ _) rfl rfl) ?_
    refine xl_dec rfl rfl rfl (pv_lss rfl rfl rfl) (fun h1_9 => ?_) (fun h1_9 => ?_)
    · skip
      refine xl_pure rfl rfl rfl (pv_pick_f (v := .bool _) rfl rfl rfl) ?_
      refine xl_pure rfl rfl rfl (pv_assign (v := .bool _) rfl rfl) ?_
      refine xl_nil ?_
      refine xthen_normal ?_
      refine xc_cond_t rfl ?_
      refine xc_seq ?_
      refine xc_region ?_
      refine xl_pure rfl rfl rfl (pv_assign (v := .int _ _) rfl rfl) ?_
      refine xl_nil ?_
      refine xthen_normal ?_
      refine xc_ret ?_
      refine xblock_ret ?_
      refine xthen_ret ?_
      refine fin_ret (res1 (v := .int _ _) rfl rfl) ?_
      obtain ⟨e1, e2⟩ := tak_arg (l := l) (k := [k0, k1, k2, k3]) (n := n) (by first | exact .inl hi1_4 | exact .inr (by omega))
      exact ⟨a, c, T, by rw [e1], hX, by rw [e2]; exact mp, by rw [e2]; exact hR, by rw [e2]; exact hc, hna, by rw [e2]; exact ht⟩
    · skip
      refine xl_pure rfl rfl rfl (pv_pick_f (v := .bool _) rfl rfl rfl) ?_
      refine xl_pure rfl rfl rfl (pv_assign (v := .bool _) rfl rfl) ?_
      refine xl_nil ?_
      refine xthen_normal ?_
      refine xc_cond_f rfl ?_
      refine xc_seq ?_
      have hkb := isB_iff.1 hi1_4
      have hq := hg.qty (k := [k0, k1, k2, k3]) rfl
      have hq3 : totB l k3 ≤ 1125899906842624 := hg.max k3
      have hq2 : qtyB l [k0, k1, k2, k3] ≤ totB l k3 := hq.2
      have htt := ht.h k3 hkb.2.2.2.1 hkb.2.2.2.2
      refine xc_region ?_
      refine xl_pure rfl rfl rfl (pv_move (v := .int _ _) rfl rfl) ?_
      refine xl_pure rfl rfl rfl (pv_move (v := .pointer _) rfl rfl) ?_
      refine xl_light rfl rfl rfl (lv_load (v := .agg _) rfl rfl (ld_blk_a m0_0 rfl rfl)) ?_
      refine xl_heavy rfl rfl rfl (hv_call (g := 43) rfl rfl (c43 mp hR hc hna hl hg.srt ht.len k0 k1 k2 k3) rfl) ?_
      rintro v3_3 H3_3 ⟨rfl, hE3_3⟩
      have mp := mp.ext hE3_3
      have hR := hR.ext hE3_3
      have m0_0 := m0_0.ext hE3_3
      have hX := hX.transE hE3_3
      refine xl_dec rfl rfl rfl (pv_gtr rfl rfl rfl) (fun h3_4 => ?_) (fun h3_4 => ?_)
      · skip
        refine xl_pure rfl rfl rfl (pv_assign (v := .bool _) rfl rfl) ?_
        refine xl_nil ?_
        refine xthen_normal ?_
        refine xc_cond_t rfl ?_
        refine xc_seq ?_
        refine xc_region ?_
        refine xl_pure rfl rfl rfl (pv_assign (v := .int _ _) rfl rfl) ?_
        refine xl_nil ?_
        refine xthen_normal ?_
        refine xc_ret ?_
        refine xblock_ret ?_
        refine xthen_ret ?_
        refine fin_ret (res1 (v := .int _ _) rfl rfl) ?_
        obtain ⟨e1, e2⟩ := tak_items (l := l) (k := [k0, k1, k2, k3]) (n := n) (by rintro (h | h); exact h hi1_4; omega) (by omega)
        exact ⟨a, c, T, by rw [e1], hX, by rw [e2]; exact mp, by rw [e2]; exact hR, by rw [e2]; exact hc, hna, by rw [e2]; exact ht⟩
      · skip
        refine xl_pure rfl rfl rfl (pv_assign (v := .bool _) rfl rfl) ?_
        refine xl_nil ?_
        refine xthen_normal ?_
        refine xc_cond_f rfl ?_
        refine xc_skip ?_
        refine xblock_normal ?_
        refine xthen_normal ?_
        refine xc_seq ?_
        refine xc_region ?_
        refine xl_pure rfl rfl rfl (pv_move (v := .pointer _) rfl rfl) ?_
        refine xl_light rfl rfl rfl (lv_load (v := .agg _) rfl rfl (ld_blk_a m0_0 rfl rfl)) ?_
        refine xl_pure rfl rfl rfl (pv_move (v := .int _ _) rfl rfl) ?_
        refine xl_pure rfl rfl rfl (pv_neg rfl rfl (fit_i64 (by omega))) ?_
        refine xl_heavy rfl rfl rfl (hv_call (g := 74) rfl rfl (c74 mp hR hc hna hl hg.srt ht.len k0 k1 k2 k3 (-n) ⟨hkb.2.2.2.1, hkb.2.2.2.2⟩ ⟨by omega, by omega⟩ ⟨by omega, by omega⟩ ⟨by omega, by omega⟩) rfl) ?_
        rintro v5_4 H5_4 ⟨a5_4, c5_4, hB5_4, hT5_4, hR5_4, hc5_4, hna5_4⟩
        have hR := hR.offT mp hB5_4 (by first | rfl | assumption)
        have m0_0 := m0_0.off hB5_4 (by first | exact nmp_0_0.symm | exact ⟨m0_0.ne mp rfl⟩ | exact ⟨m0_0.ne mp (by assumption)⟩ | exact ⟨Ne.symm (mp.ne m0_0 (by assumption))⟩)
        have hX := hX.trans hB5_4
        have mp := hT5_4
        refine xl_nil ?_
        refine xthen_normal ?_
        refine xc_seq ?_
        refine xc_region ?_
        refine xl_pure rfl rfl rfl (pv_assign (v := .int _ _) rfl rfl) ?_
        refine xl_nil ?_
        refine xthen_normal ?_
        refine xc_ret ?_
        refine fin_ret (res1 (v := .int _ _) rfl rfl) ?_
        obtain ⟨e1, e2⟩ := tak_ok (l := l) (k := [k0, k1, k2, k3]) (n := n) (by rintro (h | h); exact h hi1_4; omega) (by omega)
        exact ⟨_, _, _, by rw [e1], hX, by rw [e2]; exact mp, by rw [e2]; exact hR5_4, by rw [e2]; exact hc5_4, hna5_4, by rw [e2]; exact ht.set (n := -n) hg.srt hg.wide (k := [k0, k1, k2, k3]) rfl ⟨hkb.2.2.2.1, hkb.2.2.2.2⟩⟩
  · skip
    refine xl_pure rfl rfl rfl (pv_not rfl rfl) ?_
    refine xl_pure rfl rfl rfl (pv_pick_f (v := .bool _) rfl rfl rfl) ?_
    refine xl_pure rfl rfl rfl (pv_move (v := .bool _) rfl rfl) ?_
    refine xl_skip rfl rfl rfl ?_
    refine xl_skip rfl rfl rfl ?_
    refine xl_pure rfl rfl rfl (pv_pick_t (v := .bool _) rfl rfl rfl) ?_
    refine xl_pure rfl rfl rfl (pv_assign (v := .bool _) rfl rfl) ?_
    refine xl_nil ?_
    refine xthen_normal ?_
    refine xc_cond_t rfl ?_
    refine xc_seq ?_
    refine xc_region ?_
    refine xl_pure rfl rfl rfl (pv_assign (v := .int _ _) rfl rfl) ?_
    refine xl_nil ?_
    refine xthen_normal ?_
    refine xc_ret ?_
    refine xblock_ret ?_
    refine xthen_ret ?_
    refine fin_ret (res1 (v := .int _ _) rfl rfl) ?_
    obtain ⟨e1, e2⟩ := tak_arg (l := l) (k := [k0, k1, k2, k3]) (n := n) (by first | exact .inl hi1_4 | exact .inr (by omega))
    exact ⟨a, c, T, by rw [e1], hX, by rw [e2]; exact mp, by rw [e2]; exact hR, by rw [e2]; exact hc, hna, by rw [e2]; exact ht⟩

theorem gSame {O : Outer} {H : Heap} (l m : List Stack) (a a' : Option Addr) (c c' : Nat) (hs : Stks H a l) (hs' : Stks H a' m) (hl : l.length < 4611686018427387904) :
    FnC Try.prog 14 #[.slice a l.length c, .slice a' m.length c'] O H (fun v H' => ∃ r, v = .bool r ∧ (r = true ↔ l = m) ∧ H = H') := by
  refine fn_enter (A := [.slice a l.length c, .slice a' m.length c']) Try.func14 rfl rfl ?_
  refine xc_seq ?_
  refine xc_region ?_
  refine xl_pure rfl rfl rfl (pv_assign (v := .bool _) rfl rfl) ?_
  refine xl_nil ?_
  refine xthen_normal ?_
  refine xc_seq ?_
  refine xc_seq ?_
  refine xc_region ?_
  refine xl_pure rfl rfl rfl (pv_move (v := .slice _ _ _) rfl rfl) ?_
  refine xl_pure rfl rfl rfl (pv_len_l rfl rfl) ?_
  refine xl_pure rfl rfl rfl (pv_move (v := .slice _ _ _) rfl rfl) ?_
  refine xl_pure rfl rfl rfl (pv_len_l rfl rfl) ?_
  refine xl_ndec rfl rfl rfl (pv_neq rfl rfl rfl) (fun h1_4 => ?_) (fun h1_4 => ?_)
  · skip
    refine xl_nil ?_
    refine xthen_normal ?_
    refine xc_cond_f rfl ?_
    refine xc_skip ?_
    refine xthen_normal ?_
    refine xc_seq ?_
    refine xc_seq ?_
    refine xc_region ?_
    refine xl_pure rfl rfl rfl (pv_assign (v := .int _ _) rfl rfl) ?_
    refine xl_nil ?_
    refine xthen_normal ?_
    refine xc_block ?_
    refine xc_loop (τ := Nat) (fun t => [(0, .slice a l.length c), (1, .slice a' m.length c'), (5, .int .i64 (t : Nat))]) (fun t H' => t ≤ l.length ∧ (l = m ↔ l.drop t = m.drop t) ∧ H = H') (fun t H' => l.length - t) 0 ?_ ?_ ?_
    · exact ⟨rfl, rfl, rfl, trivial⟩
    · skip
      exact ⟨Nat.zero_le _, Iff.rfl, rfl⟩
    · intro σ
      rintro k Hl ⟨hk, heq, rfl⟩
      show XC _ _ _ (upds σ [(0, .slice a l.length c), (1, .slice a' m.length c'), (5, .int .i64 (k : Nat))]) _
      refine xc_seq ?_
      refine xc_seq ?_
      refine xc_region ?_
      refine xl_pure rfl rfl rfl (pv_move (v := .int _ _) rfl rfl) ?_
      refine xl_pure rfl rfl rfl (pv_move (v := .slice _ _ _) rfl rfl) ?_
      refine xl_pure rfl rfl rfl (pv_len_l rfl rfl) ?_
      refine xl_dec rfl rfl rfl (pv_lss rfl rfl rfl) (fun h4_3 => ?_) (fun h4_3 => ?_)
      · skip
        refine xl_pure rfl rfl rfl (pv_move (v := .bool _) rfl rfl) ?_
        refine xl_pure rfl rfl rfl (pv_move (v := .int _ _) rfl rfl) ?_
        refine xl_pure rfl rfl rfl (pv_move (v := .slice _ _ _) rfl rfl) ?_
        refine xl_pure rfl rfl rfl (pv_len_l rfl rfl) ?_
        refine xl_dec rfl rfl rfl (pv_lss rfl rfl rfl) (fun h4_8 => ?_) (fun h4_8 => ?_)
        · skip
          refine xl_pure rfl rfl rfl (pv_pick_t (v := .bool _) rfl rfl rfl) ?_
          refine xl_nil ?_
          refine xthen_normal ?_
          refine xc_cond_t rfl ?_
          refine xc_skip ?_
          refine xthen_normal ?_
          refine xc_seq ?_
          refine xc_block ?_
          refine xc_seq ?_
          obtain ⟨ba, off, rfl, hsa⟩ := hs.resolve_left (by omega)
          obtain ⟨bb, off', rfl, hsb⟩ := hs'.resolve_left (by omega)
          refine xp_start rfl (by repeat (first | with_reducible exact np_fin | with_reducible exact np_ret | with_reducible refine np_then ?_ | with_reducible refine np_block ?_)) (by kernel_rfl) ?_
          refine xp_pure (i := 0) rfl (by kernel_rfl) (by kernel_rfl) rfl rfl rfl (pv_move (v := .slice _ _ _) rfl rfl) ?_
          refine xp_pure (i := 1) rfl (by kernel_rfl) (by kernel_rfl) rfl rfl rfl (pv_move (v := .int _ _) rfl rfl) ?_
          refine xp_pure (i := 2) rfl (by kernel_rfl) (by kernel_rfl) rfl rfl rfl (pv_indexAddr_l rfl rfl rfl (by omega)) ?_
          refine xp_light (i := 3) rfl (by kernel_rfl) (by kernel_rfl) rfl rfl rfl (lv_load (v := .agg _) rfl rfl (by first | exact ld_stk (k := k) hsa (by omega))) ?_
          refine xp_pure (i := 4) rfl (by kernel_rfl) (by kernel_rfl) rfl rfl rfl (pv_move (v := .slice _ _ _) rfl rfl) ?_
          refine xp_pure (i := 5) rfl (by kernel_rfl) (by kernel_rfl) rfl rfl rfl (pv_move (v := .int _ _) rfl rfl) ?_
          refine xp_pure (i := 6) rfl (by kernel_rfl) (by kernel_rfl) rfl rfl rfl (pv_indexAddr_l rfl rfl rfl (by omega)) ?_
          refine xp_light (i := 7) rfl (by kernel_rfl) (by kernel_rfl) rfl rfl rfl (lv_load (v := .agg _) rfl rfl (by first | exact ld_stk (k := k) hsb (by omega))) ?_
          refine xp_ndec (i := 8) rfl (by kernel_rfl) (by kernel_rfl) rfl rfl rfl (pv_neq_st [gx l k, gq l k] [gx m k, gq m k] rfl rfl rfl rfl rfl) (fun h6_8 => ?_) (fun h6_8 => ?_)
          · skip
            refine xp_done (by kernel_rfl) ?_
            refine xthen_normal ?_
            refine xc_cond_f rfl ?_
            refine xc_skip ?_
            refine xblock_normal ?_
            refine xthen_normal ?_
            refine xc_region ?_
            refine xl_pure rfl rfl rfl (pv_move (v := .int _ _) rfl rfl) ?_
            refine xl_pure rfl rfl rfl (pv_add rfl rfl rfl (fit_i64 (by omega))) ?_
            refine xl_pure rfl rfl rfl (pv_assign (v := .int _ _) rfl rfl) ?_
            refine xl_nil ?_
            refine xthen_normal ?_
            exact ⟨k + 1, ⟨rfl, rfl, rfl, trivial⟩, ⟨by omega, by rw [drop_eq (by omega) (by omega) heq]; simp only [List.cons.injEq, and_true] at h6_8; simp [h6_8], rfl⟩, by omega⟩
          · skip
            refine xp_done (by kernel_rfl) ?_
            refine xthen_normal ?_
            refine xc_cond_t rfl ?_
            refine xc_seq ?_
            refine xc_region ?_
            refine xl_pure rfl rfl rfl (pv_assign (v := .bool _) rfl rfl) ?_
            refine xl_nil ?_
            refine xthen_normal ?_
            refine xc_ret ?_
            refine xblock_ret ?_
            refine xthen_ret ?_
            refine xthen_ret ?_
            refine xblock_ret ?_
            refine xthen_ret ?_
            refine fin_ret (res1 (v := .bool _) rfl rfl) ?_
            exact ⟨false, rfl, ⟨fun h => absurd h (by decide), fun h => by have h := ((drop_eq (by omega) (by omega) heq).1 h).1; exact absurd (by rw [h.1, h.2]) h6_8⟩, rfl⟩
        · skip
          refine xl_pure rfl rfl rfl (pv_pick_t (v := .bool _) rfl rfl rfl) ?_
          refine xl_nil ?_
          refine xthen_normal ?_
          refine xc_cond_f rfl ?_
          refine xc_exit ?_
          refine xthen_exit ?_
          refine xthen_exit ?_
          refine xblock_same ?_
          refine xthen_normal ?_
          refine xc_seq ?_
          refine xc_region ?_
          refine xl_pure rfl rfl rfl (pv_assign (v := .bool _) rfl rfl) ?_
          refine xl_nil ?_
          refine xthen_normal ?_
          refine xc_ret ?_
          refine fin_ret (res1 (v := .bool _) rfl rfl) ?_
          exact ⟨true, rfl, ⟨fun _ => heq.2 (by rw [List.drop_of_length_le (by omega), List.drop_of_length_le (by omega)]), fun _ => rfl⟩, rfl⟩
      · skip
        refine xl_pure rfl rfl rfl (pv_move (v := .bool _) rfl rfl) ?_
        refine xl_skip rfl rfl rfl ?_
        refine xl_skip rfl rfl rfl ?_
        refine xl_skip rfl rfl rfl ?_
        refine xl_skip rfl rfl rfl ?_
        refine xl_pure rfl rfl rfl (pv_pick_f (v := .bool _) rfl rfl rfl) ?_
        refine xl_nil ?_
        refine xthen_normal ?_
        refine xc_cond_f rfl ?_
        refine xc_exit ?_
        refine xthen_exit ?_
        refine xthen_exit ?_
        refine xblock_same ?_
        refine xthen_normal ?_
        refine xc_seq ?_
        refine xc_region ?_
        refine xl_pure rfl rfl rfl (pv_assign (v := .bool _) rfl rfl) ?_
        refine xl_nil ?_
        refine xthen_normal ?_
        refine xc_ret ?_
        refine fin_ret (res1 (v := .bool _) rfl rfl) ?_
        exact ⟨true, rfl, ⟨fun _ => heq.2 (by rw [List.drop_of_length_le (by omega), List.drop_of_length_le (by omega)]), fun _ => rfl⟩, rfl⟩
  · skip
    refine xl_nil ?_
    refine xthen_normal ?_
    refine xc_cond_t rfl ?_
    refine xc_seq ?_
    refine xc_region ?_
    refine xl_pure rfl rfl rfl (pv_assign (v := .bool _) rfl rfl) ?_
    refine xl_nil ?_
    refine xthen_normal ?_
    refine xc_ret ?_
    refine xthen_ret ?_
    refine fin_ret (res1 (v := .bool _) rfl rfl) ?_
    exact ⟨false, rfl, ⟨fun h => absurd h (by decide), fun h => by subst h; omega⟩, rfl⟩

theorem gCheck {O : Outer} {H : Heap} (l : List Stack) (a : Option Addr) (c : Nat) (m : Int) (hs : Stks H a l) (hl : l.length < 4611686018427387904) :
    FnC Try.prog 100 #[.slice a l.length c, .int .i64 m] O H (fun v H' => ∃ e, v = .int .i64 e ∧ (Goods l m ∧ e = 0 ∨ ¬ Goods l m ∧ e = 1) ∧ Ext H H') := by
  refine fn_enter (A := [.slice a l.length c, .int .i64 m]) Try.func100 rfl rfl ?_
  refine xc_seq ?_
  refine xc_region ?_
  refine xl_pure rfl rfl rfl (pv_assign (v := .int _ _) rfl rfl) ?_
  refine xl_nil ?_
  refine xthen_normal ?_
  refine xc_seq ?_
  refine xc_region ?_
  refine xl_pure rfl rfl rfl (pv_assign (v := .int _ _) rfl rfl) ?_
  refine xl_nil ?_
  refine xthen_normal ?_
  refine xc_seq ?_
  refine xc_seq ?_
  refine xc_region ?_
  refine xl_pure rfl rfl rfl (pv_move (v := .slice _ _ _) rfl rfl) ?_
  refine xl_pure rfl rfl rfl (pv_len_l rfl rfl) ?_
  refine xl_pure rfl rfl rfl (pv_move (v := .int _ _) rfl rfl) ?_
  refine xl_nil ?_
  refine xthen_normal ?_
  refine xc_block ?_
  refine xc_loop (τ := Int × Nat) (fun t => [(0, .slice a l.length c), (1, .int .i64 m), (5, .int .i64 t.1), (8, .slice a l.length c), (9, .int .i64 (l.length : Nat)), (10, .int .i64 (t.2 : Nat))]) (fun t H' => t.2 ≤ l.length ∧ (Asc m 0 l ↔ Asc m t.1 (l.drop t.2)) ∧ Ext H H') (fun t H' => l.length - t.2) (0, 0) ?_ ?_ ?_
  · exact ⟨rfl, rfl, rfl, rfl, rfl, rfl, trivial⟩
  · skip
    exact ⟨Nat.zero_le _, Iff.rfl, Ext.refl _⟩
  · intro σ
    rintro ⟨last, k⟩ Hl ⟨hk, heq, hX⟩
    simp only at hk heq
    show XC _ _ _ (upds σ [(0, .slice a l.length c), (1, .int .i64 m), (5, .int .i64 last), (8, .slice a l.length c), (9, .int .i64 (l.length : Nat)), (10, .int .i64 (k : Nat))]) _
    refine xc_seq ?_
    refine xc_region ?_
    refine xl_dec rfl rfl rfl (pv_lss rfl rfl rfl) (fun h3_0 => ?_) (fun h3_0 => ?_)
    · skip
      refine xl_nil ?_
      refine xthen_normal ?_
      refine xc_seq ?_
      refine xc_cond_t rfl ?_
      refine xc_skip ?_
      refine xthen_normal ?_
      refine xc_seq ?_
      refine xc_block ?_
      refine xc_seq ?_
      obtain ⟨ba, off, rfl, hsa⟩ := hs.resolve_left (by omega)
      refine xc_region ?_
      refine xl_pure rfl rfl rfl (pv_indexAddr_l rfl rfl rfl (by omega)) ?_
      refine xl_light rfl rfl rfl (lv_load (v := .agg _) rfl rfl (by first | exact ld_stk (k := k) (hsa.ext hX) (by omega))) ?_
      refine xl_heavy rfl rfl rfl (hv_alloc rfl rfl) ?_
      rintro v4_2 H4_2 ⟨b4_2, rfl, hN4_2⟩
      have hge := Nat.le_trans hX.size hN4_2.ge
      have hX := hX.trans hN4_2.ext
      have hr := hN4_2.blk
      refine xl_store rfl rfl (hv_storeA (vs := [.int _ _, .int _ _]) rfl rfl rfl (by first | exact hr) rfl (by rfl) rfl) ?_
      rintro v4_3 H4_3 ⟨hU4_3, hZ4_3⟩
      have hX := hX.ofBut hU4_3.but hge
      have hr := hU4_3.blk
      refine xl_nil ?_
      refine xthen_normal ?_
      refine xc_seq ?_
      refine xc_seq ?_
      refine xc_region ?_
      refine xl_pure rfl rfl rfl (pv_fieldAddr rfl rfl) ?_
      refine xl_light rfl rfl rfl (lv_load (v := .int _ _) rfl rfl (by first | exact ld_blk hr rfl)) ?_
      refine xl_pure rfl rfl rfl (pv_move (v := .int _ _) rfl rfl) ?_
      refine xl_dec rfl rfl rfl (pv_leq rfl rfl rfl) (fun h5_3 => ?_) (fun h5_3 => ?_)
      · skip
        refine xl_pure rfl rfl rfl (pv_move (v := .bool _) rfl rfl) ?_
        refine xl_skip rfl rfl rfl ?_
        refine xl_skip rfl rfl rfl ?_
        refine xl_skip rfl rfl rfl ?_
        refine xl_skip rfl rfl rfl ?_
        refine xl_pure rfl rfl rfl (pv_pick_t (v := .bool _) rfl rfl rfl) ?_
        refine xl_pure rfl rfl rfl (pv_move (v := .bool _) rfl rfl) ?_
        refine xl_skip rfl rfl rfl ?_
        refine xl_skip rfl rfl rfl ?_
        refine xl_skip rfl rfl rfl ?_
        refine xl_pure rfl rfl rfl (pv_pick_t (v := .bool _) rfl rfl rfl) ?_
        refine xl_pure rfl rfl rfl (pv_move (v := .bool _) rfl rfl) ?_
        refine xl_skip rfl rfl rfl ?_
        refine xl_skip rfl rfl rfl ?_
        refine xl_skip rfl rfl rfl ?_
        refine xl_pure rfl rfl rfl (pv_pick_t (v := .bool _) rfl rfl rfl) ?_
        refine xl_nil ?_
        refine xthen_normal ?_
        refine xc_cond_t rfl ?_
        refine xc_seq ?_
        refine xc_region ?_
        refine xl_pure rfl rfl rfl (pv_assign (v := .int _ _) rfl rfl) ?_
        refine xl_nil ?_
        refine xthen_normal ?_
        refine xc_ret ?_
        refine xthen_ret ?_
        refine xblock_ret ?_
        refine xthen_ret ?_
        refine xthen_ret ?_
        refine xblock_ret ?_
        refine xthen_ret ?_
        refine fin_ret (res1 (v := .int _ _) rfl rfl) ?_
        exact ⟨1, rfl, .inr ⟨fun h => by have h := (asc_drop (by omega)).1 (heq.1 h.1); omega, rfl⟩, hX⟩
      · skip
        refine xl_pure rfl rfl rfl (pv_move (v := .bool _) rfl rfl) ?_
        refine xl_pure rfl rfl rfl (pv_fieldAddr rfl rfl) ?_
        refine xl_light rfl rfl rfl (lv_load (v := .int _ _) rfl rfl (by first | exact ld_blk hr rfl)) ?_
        refine xl_pure rfl rfl rfl (pv_move (v := .int _ _) rfl rfl) ?_
        refine xl_dec rfl rfl rfl (pv_gtr rfl rfl rfl) (fun h5_8 => ?_) (fun h5_8 => ?_)
        · skip
          refine xl_pure rfl rfl rfl (pv_pick_f (v := .bool _) rfl rfl rfl) ?_
          refine xl_pure rfl rfl rfl (pv_move (v := .bool _) rfl rfl) ?_
          refine xl_skip rfl rfl rfl ?_
          refine xl_skip rfl rfl rfl ?_
          refine xl_skip rfl rfl rfl ?_
          refine xl_pure rfl rfl rfl (pv_pick_t (v := .bool _) rfl rfl rfl) ?_
          refine xl_pure rfl rfl rfl (pv_move (v := .bool _) rfl rfl) ?_
          refine xl_skip rfl rfl rfl ?_
          refine xl_skip rfl rfl rfl ?_
          refine xl_skip rfl rfl rfl ?_
          refine xl_pure rfl rfl rfl (pv_pick_t (v := .bool _) rfl rfl rfl) ?_
          refine xl_nil ?_
          refine xthen_normal ?_
          refine xc_cond_t rfl ?_
          refine xc_seq ?_
          refine xc_region ?_
          refine xl_pure rfl rfl rfl (pv_assign (v := .int _ _) rfl rfl) ?_
          refine xl_nil ?_
          refine xthen_normal ?_
          refine xc_ret ?_
          refine xthen_ret ?_
          refine xblock_ret ?_
          refine xthen_ret ?_
          refine xthen_ret ?_
          refine xblock_ret ?_
          refine xthen_ret ?_
          refine fin_ret (res1 (v := .int _ _) rfl rfl) ?_
          exact ⟨1, rfl, .inr ⟨fun h => by have h := (asc_drop (by omega)).1 (heq.1 h.1); omega, rfl⟩, hX⟩
        · skip
          refine xl_pure rfl rfl rfl (pv_pick_f (v := .bool _) rfl rfl rfl) ?_
          refine xl_pure rfl rfl rfl (pv_move (v := .bool _) rfl rfl) ?_
          refine xl_pure rfl rfl rfl (pv_fieldAddr rfl rfl) ?_
          refine xl_light rfl rfl rfl (lv_load (v := .int _ _) rfl rfl (by first | exact ld_blk hr rfl)) ?_
          refine xl_dec rfl rfl rfl (pv_lss rfl rfl rfl) (fun h5_13 => ?_) (fun h5_13 => ?_)
          · skip
            refine xl_pure rfl rfl rfl (pv_pick_f (v := .bool _) rfl rfl rfl) ?_
            refine xl_pure rfl rfl rfl (pv_move (v := .bool _) rfl rfl) ?_
            refine xl_skip rfl rfl rfl ?_
            refine xl_skip rfl rfl rfl ?_
            refine xl_skip rfl rfl rfl ?_
            refine xl_pure rfl rfl rfl (pv_pick_t (v := .bool _) rfl rfl rfl) ?_
            refine xl_nil ?_
            refine xthen_normal ?_
            refine xc_cond_t rfl ?_
            refine xc_seq ?_
            refine xc_region ?_
            refine xl_pure rfl rfl rfl (pv_assign (v := .int _ _) rfl rfl) ?_
            refine xl_nil ?_
            refine xthen_normal ?_
            refine xc_ret ?_
            refine xthen_ret ?_
            refine xblock_ret ?_
            refine xthen_ret ?_
            refine xthen_ret ?_
            refine xblock_ret ?_
            refine xthen_ret ?_
            refine fin_ret (res1 (v := .int _ _) rfl rfl) ?_
            exact ⟨1, rfl, .inr ⟨fun h => by have h := (asc_drop (by omega)).1 (heq.1 h.1); omega, rfl⟩, hX⟩
          · skip
            refine xl_pure rfl rfl rfl (pv_pick_f (v := .bool _) rfl rfl rfl) ?_
            refine xl_pure rfl rfl rfl (pv_move (v := .bool _) rfl rfl) ?_
            refine xl_pure rfl rfl rfl (pv_fieldAddr rfl rfl) ?_
            refine xl_light rfl rfl rfl (lv_load (v := .int _ _) rfl rfl (by first | exact ld_blk hr rfl)) ?_
            refine xl_dec rfl rfl rfl (pv_gtr rfl rfl rfl) (fun h5_18 => ?_) (fun h5_18 => ?_)
            · skip
              refine xl_pure rfl rfl rfl (pv_pick_f (v := .bool _) rfl rfl rfl) ?_
              refine xl_nil ?_
              refine xthen_normal ?_
              refine xc_cond_t rfl ?_
              refine xc_seq ?_
              refine xc_region ?_
              refine xl_pure rfl rfl rfl (pv_assign (v := .int _ _) rfl rfl) ?_
              refine xl_nil ?_
              refine xthen_normal ?_
              refine xc_ret ?_
              refine xthen_ret ?_
              refine xblock_ret ?_
              refine xthen_ret ?_
              refine xthen_ret ?_
              refine xblock_ret ?_
              refine xthen_ret ?_
              refine fin_ret (res1 (v := .int _ _) rfl rfl) ?_
              exact ⟨1, rfl, .inr ⟨fun h => by have h := (asc_drop (by omega)).1 (heq.1 h.1); omega, rfl⟩, hX⟩
            · skip
              refine xl_pure rfl rfl rfl (pv_pick_f (v := .bool _) rfl rfl rfl) ?_
              refine xl_nil ?_
              refine xthen_normal ?_
              refine xc_cond_f rfl ?_
              refine xc_skip ?_
              refine xthen_normal ?_
              refine xc_region ?_
              refine xl_pure rfl rfl rfl (pv_fieldAddr rfl rfl) ?_
              refine xl_light rfl rfl rfl (lv_load (v := .int _ _) rfl rfl (by first | exact ld_blk hr rfl)) ?_
              refine xl_pure rfl rfl rfl (pv_assign (v := .int _ _) rfl rfl) ?_
              refine xl_nil ?_
              refine xblock_normal ?_
              refine xthen_normal ?_
              refine xc_region ?_
              refine xl_pure rfl rfl rfl (pv_add rfl rfl rfl (fit_i64 (by omega))) ?_
              refine xl_pure rfl rfl rfl (pv_move (v := .int _ _) rfl rfl) ?_
              refine xl_nil ?_
              refine xthen_normal ?_
              exact ⟨(_, k + 1), ⟨rfl, rfl, rfl, rfl, rfl, rfl, trivial⟩, ⟨by omega, by rw [heq, asc_drop (by omega)]; exact ⟨fun h => h.2.2.2.2, fun h => ⟨by omega, by omega, by omega, by omega, h⟩⟩, hX⟩, by simp only; omega⟩
    · skip
      refine xl_nil ?_
      refine xthen_normal ?_
      refine xc_seq ?_
      refine xc_cond_f rfl ?_
      refine xc_exit ?_
      refine xthen_exit ?_
      refine xthen_exit ?_
      refine xblock_same ?_
      refine xthen_normal ?_
      refine xc_seq ?_
      refine xc_seq ?_
      refine xc_region ?_
      refine xl_pure rfl rfl rfl (pv_move (v := .slice _ _ _) rfl rfl) ?_
      refine xl_pure rfl rfl rfl (pv_len_l rfl rfl) ?_
      refine xl_dec rfl rfl rfl (pv_gtr rfl rfl rfl) (fun h9_2 => ?_) (fun h9_2 => ?_)
      · skip
        refine xl_nil ?_
        refine xthen_normal ?_
        refine xc_cond_t rfl ?_
        refine xc_seq ?_
        refine xc_region ?_
        refine xl_pure rfl rfl rfl (pv_assign (v := .int _ _) rfl rfl) ?_
        refine xl_nil ?_
        refine xthen_normal ?_
        refine xc_ret ?_
        refine xthen_ret ?_
        refine fin_ret (res1 (v := .int _ _) rfl rfl) ?_
        exact ⟨1, rfl, .inr ⟨fun h => by have h := h.2; omega, rfl⟩, hX⟩
      · skip
        refine xl_nil ?_
        refine xthen_normal ?_
        refine xc_cond_f rfl ?_
        refine xc_skip ?_
        refine xthen_normal ?_
        refine xc_seq ?_
        refine xc_region ?_
        refine xl_pure rfl rfl rfl (pv_assign (v := .int _ _) rfl rfl) ?_
        refine xl_nil ?_
        refine xthen_normal ?_
        refine xc_ret ?_
        refine fin_ret (res1 (v := .int _ _) rfl rfl) ?_
        exact ⟨0, rfl, .inl ⟨⟨heq.2 (asc_end (by omega)), by omega⟩, rfl⟩, hX⟩

theorem c85p {O : Outer} {H : Heap} {bp c : Nat} {a : Option Addr} {l : List (List Int)} {T : List Int} (mp : Blk H bp (.slice a (l).length c :: ints (T)) 87) (hR : RowsT H 138 5 a l) (hc : l.length ≤ c) (hna : a = none → c = 0) (hl : l.length < 900000) (hg : GooL l) (ht : Tots l T) (k0 k1 k2 k3 : Int) {sa : Option Addr} {sc : Nat} {s : List Stack} (hS : StksO H bp sa s) (hsl : s.length < 1099511627776) :
    FnC Try.prog 85 #[.pointer (some ⟨bp, 0, none⟩), .agg #[.int .i64 k0, .int .i64 k1, .int .i64 k2, .int .i64 k3], .slice sa s.length sc, .func (.func 40) #[] #[]] O H (fun v H' => ∃ a' c' T', v = .int .i64 (allE true l k0 k1 k2 s) ∧ But bp H H' ∧ Blk H' bp (.slice a' (allX true l k0 k1 k2 s).length c' :: ints (T')) 87 ∧ RowsT H' 138 5 a' (allX true l k0 k1 k2 s) ∧ (allX true l k0 k1 k2 s).length ≤ c' ∧ (a' = none → c' = 0) ∧ Tots (allX true l k0 k1 k2 s) T') := by
  have hR0 := hR
  refine fn_enter (A := [.pointer (some ⟨bp, 0, none⟩), .agg #[.int .i64 k0, .int .i64 k1, .int .i64 k2, .int .i64 k3], .slice sa s.length sc, .func (.func 40) #[] #[]]) Try.func85 rfl rfl ?_
  have hX := But.refl bp H
  refine xc_seq ?_
  refine xc_region ?_
  refine xl_heavy rfl rfl rfl (hv_box rfl rfl) ?_
  rintro v0_0 H0_0 ⟨b0_0, rfl, hN0_0⟩
  have gb0_0 := hX.fresh hN0_0
  have nmp_0_0 := mp.apart hN0_0
  have mp := mp.ext hN0_0.ext
  have hR := hR.ext hN0_0.ext
  have hR0 := hR0.ext hN0_0.ext
  have hX := hX.transE hN0_0.ext
  have m0_0 := hN0_0.blk
  refine xl_pure rfl rfl rfl (pv_assign (v := .int _ _) rfl rfl) ?_
  refine xl_nil ?_
  refine xthen_normal ?_
  refine xc_seq ?_
  refine xc_seq ?_
  refine xc_region ?_
  refine xl_pure rfl rfl rfl (pv_move (v := .pointer _) rfl rfl) ?_
  refine xl_pure rfl rfl rfl (pv_eql_pn rfl rfl rfl) ?_
  refine xl_pure rfl rfl rfl (pv_move (v := .bool _) rfl rfl) ?_
  refine xl_light rfl rfl rfl (lv_load (v := .agg _) rfl rfl (ld_blk_a m0_0 rfl rfl)) ?_
  refine xl_heavy rfl rfl rfl (hv_call (g := 82) rfl rfl (c82 k0 k1 k2 k3 1) rfl) ?_
  rintro v1_4 H1_4 ⟨rfl, hE1_4⟩
  have mp := mp.ext hE1_4
  have hR := hR.ext hE1_4
  have hR0 := hR0.ext hE1_4
  have m0_0 := m0_0.ext hE1_4
  have hX := hX.transE hE1_4
  refine xl_heavy rfl rfl rfl (hv_call (g := 44) rfl rfl (c44 k0 k1 k2 1) rfl) ?_
  rintro v1_5 H1_5 ⟨hv1_5, hE1_5⟩
  have mp := mp.ext hE1_5
  have hR := hR.ext hE1_5
  have hR0 := hR0.ext hE1_5
  have m0_0 := m0_0.ext hE1_5
  have hX := hX.transE hE1_5
  rcases hv1_5 with ⟨hi1_5, rfl⟩ | ⟨hi1_5, rfl⟩
  · skip
    refine xl_pure rfl rfl rfl (pv_not rfl rfl) ?_
    refine xl_pure rfl rfl rfl (pv_pick_f (v := .bool _) rfl rfl rfl) ?_
    refine xl_pure rfl rfl rfl (pv_move (v := .bool _) rfl rfl) ?_
    refine xl_pure rfl rfl rfl (pv_move (v := .slice _ _ _) rfl rfl) ?_
    refine xl_heavy rfl rfl rfl (hv_call (g := 100) rfl rfl (gCheck s sa sc 32 (hS.but hX) (by omega)) rfl) ?_
    rintro v1_10 H1_10 ⟨e1_10, rfl, hg1_10, hE1_10⟩
    have mp := mp.ext hE1_10
    have hR := hR.ext hE1_10
    have hR0 := hR0.ext hE1_10
    have m0_0 := m0_0.ext hE1_10
    have hX := hX.transE hE1_10
    rcases hg1_10 with ⟨hg1_10, rfl⟩ | ⟨hg1_10, rfl⟩
    · skip
      refine xl_ndec rfl rfl rfl (pv_neq rfl rfl rfl) (fun h1_11 => ?_) (fun h1_11 => ?_)
      · skip
        refine xl_pure rfl rfl rfl (pv_pick_f (v := .bool _) rfl rfl rfl) ?_
        refine xl_nil ?_
        refine xthen_normal ?_
        refine xc_cond_f rfl ?_
        refine xc_skip ?_
        refine xthen_normal ?_
        refine xc_seq ?_
        refine xc_region ?_
        refine xl_pure rfl rfl rfl (pv_move (v := .pointer _) rfl rfl) ?_
        refine xl_pure rfl rfl rfl (pv_nilCheck_p rfl rfl) ?_
        refine xl_light rfl rfl rfl (lv_load (v := .agg _) rfl rfl (by exact ld_bins mp ht.len)) ?_
        refine xl_heavy rfl rfl rfl (hv_alloc rfl rfl) ?_
        rintro v3_3 H3_3 ⟨b3_3, rfl, hN3_3⟩
        have gb3_3 := hX.fresh hN3_3
        have nmp_3_3 := mp.apart hN3_3
        have nm0_0_3_3 := m0_0.apart hN3_3
        have mp := mp.ext hN3_3.ext
        have hR := hR.ext hN3_3.ext
        have hR0 := hR0.ext hN3_3.ext
        have m0_0 := m0_0.ext hN3_3.ext
        have hX := hX.transE hN3_3.ext
        have m3_3 := hN3_3.blk
        refine xl_store rfl rfl (hv_storeA (vs := (.slice a (l).length c :: ints (T))) rfl rfl rfl (m3_3) (bins_len ht.len) (by rfl) bins_one) ?_
        rintro v3_4 H3_4 ⟨hU3_4, hZ3_4⟩
        have mp := mp.off hU3_4.but (by first | exact nmp_3_3 | exact ⟨mp.ne m3_3 rfl⟩ | exact ⟨mp.ne m3_3 (by assumption)⟩ | exact ⟨Ne.symm (m3_3.ne mp (by assumption))⟩)
        have hR := hR.offT m3_3 hU3_4.but (by first | rfl | assumption)
        have hR0 := hR0.offT m3_3 hU3_4.but (by first | rfl | assumption)
        have m0_0 := m0_0.off hU3_4.but (by first | exact nm0_0_3_3 | exact ⟨m0_0.ne m3_3 rfl⟩ | exact ⟨m0_0.ne m3_3 (by assumption)⟩ | exact ⟨Ne.symm (m3_3.ne m0_0 (by assumption))⟩)
        have hX := hX.upd hU3_4.but gb3_3
        have m3_3 := hU3_4.blk
        refine xl_nil ?_
        refine xthen_normal ?_
        refine xc_seq ?_
        refine xc_seq ?_
        refine xc_region ?_
        refine xl_pure rfl rfl rfl (pv_move (v := .slice _ _ _) rfl rfl) ?_
        refine xl_pure rfl rfl rfl (pv_len_l rfl rfl) ?_
        refine xl_pure rfl rfl rfl (pv_move (v := .int _ _) rfl rfl) ?_
        refine xl_nil ?_
        refine xthen_normal ?_
        refine xc_block ?_
        refine xc_loop (τ := Nat × List (List Int) × Option Addr × Nat × List Int) (fun t => [(0, .pointer (some ⟨bp, 0, none⟩)), (3, .func (.func 40) #[] #[]), (5, .pointer (some ⟨b0_0, 0, none⟩)), (9, .pointer (some ⟨b3_3, 0, none⟩)), (29, .slice sa s.length sc), (30, .int .i64 (s.length : Nat)), (31, .int .i64 (t.1 : Nat))]) (fun t H' => (t.1 ≤ s.length) ∧ (runE true k0 k1 k2 l s = runE true k0 k1 k2 t.2.1 (s.drop t.1)) ∧ (runX true k0 k1 k2 l s = runX true k0 k1 k2 t.2.1 (s.drop t.1)) ∧ (GooL t.2.1) ∧ (t.2.1.length ≤ l.length + t.1) ∧ (Blk H' bp (.slice t.2.2.1 (t.2.1).length t.2.2.2.1 :: ints (t.2.2.2.2)) 87) ∧ (RowsT H' 138 5 t.2.2.1 t.2.1) ∧ (t.2.1.length ≤ t.2.2.2.1) ∧ (t.2.2.1 = none → t.2.2.2.1 = 0) ∧ (Tots t.2.1 t.2.2.2.2) ∧ (Blk H' b3_3 (.slice a (l).length c :: ints (T)) 87) ∧ (RowsT H' 138 5 a l) ∧ (Blk H' b0_0 [.int .i64 k0, .int .i64 k1, .int .i64 k2, .int .i64 k3] 37) ∧ (But bp H H')) (fun t H' => s.length - t.1) (0, l, a, c, T) ?_ ?_ ?_
        · exact ⟨rfl, rfl, rfl, rfl, rfl, rfl, rfl, trivial⟩
        · skip
          exact ⟨Nat.zero_le _, rfl, rfl, hg, Nat.le_refl _, mp, hR, hc, hna, ht, m3_3, hR0, m0_0, hX⟩
        · intro σ
          clear hX mp hR hR0 m0_0 m3_3
          rintro ⟨i, y, a1, c1, T1⟩ Hl5 ⟨hi, hre, hrx, hgy, hly, mp, hR, hc1, hna1, hty, m3_3, hR0, m0_0, hX⟩
          replace hi : i ≤ s.length := hi
          replace hre : runE true k0 k1 k2 l s = runE true k0 k1 k2 y (s.drop i) := hre
          replace hrx : runX true k0 k1 k2 l s = runX true k0 k1 k2 y (s.drop i) := hrx
          replace hgy : GooL y := hgy
          replace hly : y.length ≤ l.length + i := hly
          replace mp : Blk Hl5 bp (.slice a1 (y).length c1 :: ints (T1)) 87 := mp
          replace hR : RowsT Hl5 138 5 a1 y := hR
          replace hc1 : y.length ≤ c1 := hc1
          replace hna1 : a1 = none → c1 = 0 := hna1
          replace hty : Tots y T1 := hty
          replace m3_3 : Blk Hl5 b3_3 (.slice a (l).length c :: ints (T)) 87 := m3_3
          replace hR0 : RowsT Hl5 138 5 a l := hR0
          replace m0_0 : Blk Hl5 b0_0 [.int .i64 k0, .int .i64 k1, .int .i64 k2, .int .i64 k3] 37 := m0_0
          replace hX : But bp H Hl5 := hX
          obtain ⟨sb, so, hse⟩ := (hS.but hX).at'
          have h8 := hg1_10.2
          have hok : AllOk k0 k1 k2 s := ⟨hi1_5, hg1_10⟩
          show XC _ _ _ (upds σ [(0, .pointer (some ⟨bp, 0, none⟩)), (3, .func (.func 40) #[] #[]), (5, .pointer (some ⟨b0_0, 0, none⟩)), (9, .pointer (some ⟨b3_3, 0, none⟩)), (29, .slice sa s.length sc), (30, .int .i64 (s.length : Nat)), (31, .int .i64 (i : Nat))]) _
          refine xc_seq ?_
          refine xc_region ?_
          refine xl_dec rfl rfl rfl (pv_lss rfl rfl rfl) (fun h5_0 => ?_) (fun h5_0 => ?_)
          · skip
            refine xl_nil ?_
            refine xthen_normal ?_
            refine xc_seq ?_
            refine xc_cond_t rfl ?_
            refine xc_skip ?_
            refine xthen_normal ?_
            refine xc_seq ?_
            refine xc_block ?_
            refine xc_seq ?_
            refine xc_region ?_
            refine xl_pure rfl rfl rfl (pv_indexAddr_l rfl (sl_eq (hse (by omega)).1) rfl (by omega)) ?_
            refine xl_light rfl rfl rfl (lv_load (v := .agg _) rfl rfl (by exact ld_stk (hse (by omega)).2 (by omega))) ?_
            refine xl_heavy rfl rfl rfl (hv_alloc rfl rfl) ?_
            rintro v6_2 H6_2 ⟨b6_2, rfl, hN6_2⟩
            have gb6_2 := hX.fresh hN6_2
            have nmp_6_2 := mp.apart hN6_2
            have nm0_0_6_2 := m0_0.apart hN6_2
            have nm3_3_6_2 := m3_3.apart hN6_2
            have mp := mp.ext hN6_2.ext
            have hR := hR.ext hN6_2.ext
            have hR0 := hR0.ext hN6_2.ext
            have m0_0 := m0_0.ext hN6_2.ext
            have m3_3 := m3_3.ext hN6_2.ext
            have hX := hX.transE hN6_2.ext
            have m6_2 := hN6_2.blk
            refine xl_store rfl rfl (hv_storeA (vs := [.int _ _, .int _ _]) rfl rfl rfl (m6_2) rfl (by rfl) rfl) ?_
            rintro v6_3 H6_3 ⟨hU6_3, hZ6_3⟩
            have mp := mp.off hU6_3.but (by first | exact nmp_6_2 | exact ⟨mp.ne m6_2 rfl⟩ | exact ⟨mp.ne m6_2 (by assumption)⟩ | exact ⟨Ne.symm (m6_2.ne mp (by assumption))⟩)
            have hR := hR.offT m6_2 hU6_3.but (by first | rfl | assumption)
            have hR0 := hR0.offT m6_2 hU6_3.but (by first | rfl | assumption)
            have m0_0 := m0_0.off hU6_3.but (by first | exact nm0_0_6_2 | exact ⟨m0_0.ne m6_2 rfl⟩ | exact ⟨m0_0.ne m6_2 (by assumption)⟩ | exact ⟨Ne.symm (m6_2.ne m0_0 (by assumption))⟩)
            have m3_3 := m3_3.off hU6_3.but (by first | exact nm3_3_6_2 | exact ⟨m3_3.ne m6_2 rfl⟩ | exact ⟨m3_3.ne m6_2 (by assumption)⟩ | exact ⟨Ne.symm (m6_2.ne m3_3 (by assumption))⟩)
            have hX := hX.upd hU6_3.but gb6_2
            have m6_2 := hU6_3.blk
            refine xl_nil ?_
            refine xthen_normal ?_
            refine xc_seq ?_
            obtain ⟨hx1, hx2, hq1, hq2⟩ := goods_at hg1_10 (show i < s.length by omega)
            refine xp_start rfl (by repeat (first | with_reducible exact np_fin | with_reducible exact np_ret | with_reducible refine np_then ?_ | with_reducible refine np_block ?_)) (by kernel_rfl) ?_
            refine xp_pure (i := 0) rfl (by kernel_rfl) (by kernel_rfl) rfl rfl rfl (pv_move rfl rfl) ?_
            refine xp_pure (i := 1) rfl (by kernel_rfl) (by kernel_rfl) rfl rfl rfl (pv_move (v := .pointer _) rfl rfl) ?_
            refine xp_light (i := 2) rfl (by kernel_rfl) (by kernel_rfl) rfl rfl rfl (lv_load (v := .agg _) rfl rfl (ld_blk_a m0_0 rfl rfl)) ?_
            refine xp_pure (i := 3) rfl (by kernel_rfl) (by kernel_rfl) rfl rfl rfl (pv_fieldAddr rfl rfl) ?_
            refine xp_light (i := 4) rfl (by kernel_rfl) (by kernel_rfl) rfl rfl rfl (lv_load (v := .int _ _) rfl rfl (ld_blk m6_2 rfl)) ?_
            refine xp_pure (i := 6) rfl (by kernel_rfl) (by kernel_rfl) rfl rfl rfl (pv_fieldAddr rfl rfl) ?_
            refine xp_light (i := 7) rfl (by kernel_rfl) (by kernel_rfl) rfl rfl rfl (lv_load (v := .int _ _) rfl rfl (ld_blk m6_2 rfl)) ?_
            refine xp_heavy (i := 5) (by kernel_rfl) ?_
            refine xph_val rfl rfl rfl rfl (hv_call (g := 82) rfl rfl (c82 k0 k1 k2 k3 (gx s i)) rfl) (pk (by kernel_rfl) (pd (by kernel_rfl) (pd (by kernel_rfl) pn))) ?_
            rintro v7_5 H7_5 ⟨rfl, hE7_5⟩
            have mp := mp.ext hE7_5
            have hR := hR.ext hE7_5
            have hR0 := hR0.ext hE7_5
            have m0_0 := m0_0.ext hE7_5
            have m3_3 := m3_3.ext hE7_5
            have m6_2 := m6_2.ext hE7_5
            have hX := hX.transE hE7_5
            refine ⟨(okc (lv_load (v := .int _ _) rfl rfl (ld_blk m6_2 rfl)) okn), ?_⟩
            refine xp_heavy (i := 8) (by kernel_rfl) ?_
            refine xph_val rfl rfl rfl rfl (hv_call (g := 40) rfl rfl (c40 mp hR hc1 hna1 (by omega) hgy hty k0 k1 k2 (gx s i) (gq s i) (by omega)) rfl) (pd (by kernel_rfl) pn) ?_
            rintro v7_8 H7_8 ⟨a7_8, c7_8, T7_8, rfl, hB7_8, hT7_8, hR7_8, hc7_8, hna7_8, ht7_8⟩
            have hR := hR.offT mp hB7_8 (by first | rfl | assumption)
            have hR0 := hR0.offT mp hB7_8 (by first | rfl | assumption)
            have m0_0 := m0_0.off hB7_8 (by first | exact nmp_0_0.symm | exact ⟨m0_0.ne mp rfl⟩ | exact ⟨m0_0.ne mp (by assumption)⟩ | exact ⟨Ne.symm (mp.ne m0_0 (by assumption))⟩)
            have m3_3 := m3_3.off hB7_8 (by first | exact nmp_3_3.symm | exact ⟨m3_3.ne mp rfl⟩ | exact ⟨m3_3.ne mp (by assumption)⟩ | exact ⟨Ne.symm (mp.ne m3_3 (by assumption))⟩)
            have m6_2 := m6_2.off hB7_8 (by first | exact nmp_6_2.symm | exact ⟨m6_2.ne mp rfl⟩ | exact ⟨m6_2.ne mp (by assumption)⟩ | exact ⟨Ne.symm (mp.ne m6_2 (by assumption))⟩)
            have hX := hX.trans hB7_8
            have mp := hT7_8
            refine ⟨okn, ?_⟩
            refine xp_pure (i := 9) rfl (by kernel_rfl) (by kernel_rfl) rfl rfl rfl (pv_assign (v := .int _ _) rfl rfl) ?_
            refine xp_done (by kernel_rfl) ?_
            refine xthen_normal ?_
            refine xc_seq ?_
            refine xc_region ?_
            refine xl_pure rfl rfl rfl (pv_move (v := .int _ _) rfl rfl) ?_
            refine xl_ndec rfl rfl rfl (pv_neq rfl rfl rfl) (fun h8_1 => ?_) (fun h8_1 => ?_)
            · skip
              refine xl_nil ?_
              refine xthen_normal ?_
              refine xc_cond_f rfl ?_
              refine xc_skip ?_
              refine xblock_normal ?_
              refine xthen_normal ?_
              refine xc_region ?_
              refine xl_pure rfl rfl rfl (pv_add rfl rfl rfl (fit_i64 (by omega))) ?_
              refine xl_pure rfl rfl rfl (pv_move (v := .int _ _) rfl rfl) ?_
              refine xl_nil ?_
              refine xthen_normal ?_
              exact ⟨(i + 1, _, _, _, _), ⟨rfl, rfl, rfl, rfl, rfl, rfl, rfl, trivial⟩, ⟨by (try simp only); omega, hre.trans (run_next (d := true) (by omega) h8_1).1, hrx.trans (run_next (d := true) (by omega) h8_1).2, (goo_d (d := true) hgy rfl).1, Nat.le_trans (goo_d (d := true) hgy rfl).2 (by omega), mp, hR7_8, hc7_8, hna7_8, ht7_8, m3_3, hR0, m0_0, hX⟩, by (try simp only); omega⟩
            · skip
              refine xl_nil ?_
              refine xthen_normal ?_
              refine xc_cond_t rfl ?_
              refine xc_seq ?_
              have hty2 := ht7_8
              refine xc_region ?_
              refine xl_pure rfl rfl rfl (pv_move (v := .pointer _) rfl rfl) ?_
              refine xl_light rfl rfl rfl (lv_load (v := .agg _) rfl rfl (by exact ld_bins m3_3 ht.len)) ?_
              refine xl_pure rfl rfl rfl (pv_nilCheck_p rfl rfl) ?_
              refine xl_store rfl rfl (hv_storeA (vs := (.slice a (l).length c :: ints (T))) rfl rfl rfl (mp) (bins_len ht.len) (by simp [ints, hty2.len]) bins_one) ?_
              rintro v9_3 H9_3 ⟨hU9_3, hZ9_3⟩
              have hR := hR.offT mp hU9_3.but (by first | rfl | assumption)
              have hR0 := hR0.offT mp hU9_3.but (by first | rfl | assumption)
              have m0_0 := m0_0.off hU9_3.but (by first | exact nmp_0_0.symm | exact ⟨m0_0.ne mp rfl⟩ | exact ⟨m0_0.ne mp (by assumption)⟩ | exact ⟨Ne.symm (mp.ne m0_0 (by assumption))⟩)
              have m3_3 := m3_3.off hU9_3.but (by first | exact nmp_3_3.symm | exact ⟨m3_3.ne mp rfl⟩ | exact ⟨m3_3.ne mp (by assumption)⟩ | exact ⟨Ne.symm (mp.ne m3_3 (by assumption))⟩)
              have m6_2 := m6_2.off hU9_3.but (by first | exact nmp_6_2.symm | exact ⟨m6_2.ne mp rfl⟩ | exact ⟨m6_2.ne mp (by assumption)⟩ | exact ⟨Ne.symm (mp.ne m6_2 (by assumption))⟩)
              have hR7_8 := hR7_8.offT mp hU9_3.but (by first | rfl | assumption)
              have hX := hX.trans hU9_3.but
              have mp := hU9_3.blk
              refine xl_nil ?_
              refine xthen_normal ?_
              refine xc_seq ?_
              refine xc_region ?_
              refine xl_pure rfl rfl rfl (pv_move (v := .int _ _) rfl rfl) ?_
              refine xl_pure rfl rfl rfl (pv_assign (v := .int _ _) rfl rfl) ?_
              refine xl_nil ?_
              refine xthen_normal ?_
              refine xc_ret ?_
              refine xblock_ret ?_
              refine xthen_ret ?_
              refine xthen_ret ?_
              refine xblock_ret ?_
              refine xthen_ret ?_
              refine fin_ret (res1 (v := .int _ _) rfl rfl) ?_
              obtain ⟨e1, e2⟩ := all_stop hok (hre.trans (run_stop (d := true) (by omega) h8_1)) h8_1
              exact ⟨a, c, T, by rw [e1]; rfl, hX, by rw [e2]; exact mp, by rw [e2]; exact hR0, by rw [e2]; exact hc, hna, by rw [e2]; exact ht⟩
          · skip
            refine xl_nil ?_
            refine xthen_normal ?_
            refine xc_seq ?_
            refine xc_cond_f rfl ?_
            refine xc_exit ?_
            refine xthen_exit ?_
            refine xthen_exit ?_
            refine xblock_same ?_
            refine xthen_normal ?_
            refine xc_seq ?_
            refine xc_region ?_
            refine xl_pure rfl rfl rfl (pv_assign (v := .int _ _) rfl rfl) ?_
            refine xl_nil ?_
            refine xthen_normal ?_
            refine xc_ret ?_
            refine fin_ret (res1 (v := .int _ _) rfl rfl) ?_
            obtain rfl : i = s.length := by omega
            obtain ⟨e1, e2⟩ := all_done hok (hre.trans run_end.1) (hrx.trans run_end.2)
            exact ⟨a1, c1, T1, by rw [e1], hX, by rw [e2]; exact mp, by rw [e2]; exact hR, by rw [e2]; exact hc1, hna1, by rw [e2]; exact hty⟩
      · exact absurd (by decide) h1_11
    · skip
      refine xl_ndec rfl rfl rfl (pv_neq rfl rfl rfl) (fun h1_11 => ?_) (fun h1_11 => ?_)
      · exact absurd h1_11 (by decide)
      · skip
        refine xl_pure rfl rfl rfl (pv_pick_f (v := .bool _) rfl rfl rfl) ?_
        refine xl_nil ?_
        refine xthen_normal ?_
        refine xc_cond_t rfl ?_
        refine xc_seq ?_
        refine xc_region ?_
        refine xl_pure rfl rfl rfl (pv_assign (v := .int _ _) rfl rfl) ?_
        refine xl_nil ?_
        refine xthen_normal ?_
        refine xc_ret ?_
        refine xthen_ret ?_
        refine fin_ret (res1 (v := .int _ _) rfl rfl) ?_
        obtain ⟨e1, e2⟩ := all_arg (d := true) (l := l) (k0 := k0) (k1 := k1) (k2 := k2) (s := s) (fun h => by first | exact hi1_5 h.1 | exact hg1_10 h.2)
        exact ⟨a, c, T, by rw [e1], hX, by rw [e2]; exact mp, by rw [e2]; exact hR, by rw [e2]; exact hc, hna, by rw [e2]; exact ht⟩
  · skip
    refine xl_pure rfl rfl rfl (pv_not rfl rfl) ?_
    refine xl_pure rfl rfl rfl (pv_pick_f (v := .bool _) rfl rfl rfl) ?_
    refine xl_pure rfl rfl rfl (pv_move (v := .bool _) rfl rfl) ?_
    refine xl_skip rfl rfl rfl ?_
    refine xl_skip rfl rfl rfl ?_
    refine xl_skip rfl rfl rfl ?_
    refine xl_pure rfl rfl rfl (pv_pick_t (v := .bool _) rfl rfl rfl) ?_
    refine xl_nil ?_
    refine xthen_normal ?_
    refine xc_cond_t rfl ?_
    refine xc_seq ?_
    refine xc_region ?_
    refine xl_pure rfl rfl rfl (pv_assign (v := .int _ _) rfl rfl) ?_
    refine xl_nil ?_
    refine xthen_normal ?_
    refine xc_ret ?_
    refine xthen_ret ?_
    refine fin_ret (res1 (v := .int _ _) rfl rfl) ?_
    obtain ⟨e1, e2⟩ := all_arg (d := true) (l := l) (k0 := k0) (k1 := k1) (k2 := k2) (s := s) (fun h => by first | exact hi1_5 h.1 | exact hg1_10 h.2)
    exact ⟨a, c, T, by rw [e1], hX, by rw [e2]; exact mp, by rw [e2]; exact hR, by rw [e2]; exact hc, hna, by rw [e2]; exact ht⟩

theorem c85t {O : Outer} {H : Heap} {bp c : Nat} {a : Option Addr} {l : List (List Int)} {T : List Int} (mp : Blk H bp (.slice a (l).length c :: ints (T)) 87) (hR : RowsT H 138 5 a l) (hc : l.length ≤ c) (hna : a = none → c = 0) (hl : l.length < 900000) (hg : GooL l) (ht : Tots l T) (k0 k1 k2 k3 : Int) {sa : Option Addr} {sc : Nat} {s : List Stack} (hS : StksO H bp sa s) (hsl : s.length < 1099511627776) :
    FnC Try.prog 85 #[.pointer (some ⟨bp, 0, none⟩), .agg #[.int .i64 k0, .int .i64 k1, .int .i64 k2, .int .i64 k3], .slice sa s.length sc, .func (.func 62) #[] #[]] O H (fun v H' => ∃ a' c' T', v = .int .i64 (allE false l k0 k1 k2 s) ∧ But bp H H' ∧ Blk H' bp (.slice a' (allX false l k0 k1 k2 s).length c' :: ints (T')) 87 ∧ RowsT H' 138 5 a' (allX false l k0 k1 k2 s) ∧ (allX false l k0 k1 k2 s).length ≤ c' ∧ (a' = none → c' = 0) ∧ Tots (allX false l k0 k1 k2 s) T') := by
  have hR0 := hR
  refine fn_enter (A := [.pointer (some ⟨bp, 0, none⟩), .agg #[.int .i64 k0, .int .i64 k1, .int .i64 k2, .int .i64 k3], .slice sa s.length sc, .func (.func 62) #[] #[]]) Try.func85 rfl rfl ?_
  have hX := But.refl bp H
  refine xc_seq ?_
  refine xc_region ?_
  refine xl_heavy rfl rfl rfl (hv_box rfl rfl) ?_
  rintro v0_0 H0_0 ⟨b0_0, rfl, hN0_0⟩
  have gb0_0 := hX.fresh hN0_0
  have nmp_0_0 := mp.apart hN0_0
  have mp := mp.ext hN0_0.ext
  have hR := hR.ext hN0_0.ext
  have hR0 := hR0.ext hN0_0.ext
  have hX := hX.transE hN0_0.ext
  have m0_0 := hN0_0.blk
  refine xl_pure rfl rfl rfl (pv_assign (v := .int _ _) rfl rfl) ?_
  refine xl_nil ?_
  refine xthen_normal ?_
  refine xc_seq ?_
  refine xc_seq ?_
  refine xc_region ?_
  refine xl_pure rfl rfl rfl (pv_move (v := .pointer _) rfl rfl) ?_
  refine xl_pure rfl rfl rfl (pv_eql_pn rfl rfl rfl) ?_
  refine xl_pure rfl rfl rfl (pv_move (v := .bool _) rfl rfl) ?_
  refine xl_light rfl rfl rfl (lv_load (v := .agg _) rfl rfl (ld_blk_a m0_0 rfl rfl)) ?_
  refine xl_heavy rfl rfl rfl (hv_call (g := 82) rfl rfl (c82 k0 k1 k2 k3 1) rfl) ?_
  rintro v1_4 H1_4 ⟨rfl, hE1_4⟩
  have mp := mp.ext hE1_4
  have hR := hR.ext hE1_4
  have hR0 := hR0.ext hE1_4
  have m0_0 := m0_0.ext hE1_4
  have hX := hX.transE hE1_4
  refine xl_heavy rfl rfl rfl (hv_call (g := 44) rfl rfl (c44 k0 k1 k2 1) rfl) ?_
  rintro v1_5 H1_5 ⟨hv1_5, hE1_5⟩
  have mp := mp.ext hE1_5
  have hR := hR.ext hE1_5
  have hR0 := hR0.ext hE1_5
  have m0_0 := m0_0.ext hE1_5
  have hX := hX.transE hE1_5
  rcases hv1_5 with ⟨hi1_5, rfl⟩ | ⟨hi1_5, rfl⟩
  · skip
    refine xl_pure rfl rfl rfl (pv_not rfl rfl) ?_
    refine xl_pure rfl rfl rfl (pv_pick_f (v := .bool _) rfl rfl rfl) ?_
    refine xl_pure rfl rfl rfl (pv_move (v := .bool _) rfl rfl) ?_
    refine xl_pure rfl rfl rfl (pv_move (v := .slice _ _ _) rfl rfl) ?_
    refine xl_heavy rfl rfl rfl (hv_call (g := 100) rfl rfl (gCheck s sa sc 32 (hS.but hX) (by omega)) rfl) ?_
    rintro v1_10 H1_10 ⟨e1_10, rfl, hg1_10, hE1_10⟩
    have mp := mp.ext hE1_10
    have hR := hR.ext hE1_10
    have hR0 := hR0.ext hE1_10
    have m0_0 := m0_0.ext hE1_10
    have hX := hX.transE hE1_10
    rcases hg1_10 with ⟨hg1_10, rfl⟩ | ⟨hg1_10, rfl⟩
    · skip
      refine xl_ndec rfl rfl rfl (pv_neq rfl rfl rfl) (fun h1_11 => ?_) (fun h1_11 => ?_)
      · skip
        refine xl_pure rfl rfl rfl (pv_pick_f (v := .bool _) rfl rfl rfl) ?_
        refine xl_nil ?_
        refine xthen_normal ?_
        refine xc_cond_f rfl ?_
        refine xc_skip ?_
        refine xthen_normal ?_
        refine xc_seq ?_
        refine xc_region ?_
        refine xl_pure rfl rfl rfl (pv_move (v := .pointer _) rfl rfl) ?_
        refine xl_pure rfl rfl rfl (pv_nilCheck_p rfl rfl) ?_
        refine xl_light rfl rfl rfl (lv_load (v := .agg _) rfl rfl (by exact ld_bins mp ht.len)) ?_
        refine xl_heavy rfl rfl rfl (hv_alloc rfl rfl) ?_
        rintro v3_3 H3_3 ⟨b3_3, rfl, hN3_3⟩
        have gb3_3 := hX.fresh hN3_3
        have nmp_3_3 := mp.apart hN3_3
        have nm0_0_3_3 := m0_0.apart hN3_3
        have mp := mp.ext hN3_3.ext
        have hR := hR.ext hN3_3.ext
        have hR0 := hR0.ext hN3_3.ext
        have m0_0 := m0_0.ext hN3_3.ext
        have hX := hX.transE hN3_3.ext
        have m3_3 := hN3_3.blk
        refine xl_store rfl rfl (hv_storeA (vs := (.slice a (l).length c :: ints (T))) rfl rfl rfl (m3_3) (bins_len ht.len) (by rfl) bins_one) ?_
        rintro v3_4 H3_4 ⟨hU3_4, hZ3_4⟩
        have mp := mp.off hU3_4.but (by first | exact nmp_3_3 | exact ⟨mp.ne m3_3 rfl⟩ | exact ⟨mp.ne m3_3 (by assumption)⟩ | exact ⟨Ne.symm (m3_3.ne mp (by assumption))⟩)
        have hR := hR.offT m3_3 hU3_4.but (by first | rfl | assumption)
        have hR0 := hR0.offT m3_3 hU3_4.but (by first | rfl | assumption)
        have m0_0 := m0_0.off hU3_4.but (by first | exact nm0_0_3_3 | exact ⟨m0_0.ne m3_3 rfl⟩ | exact ⟨m0_0.ne m3_3 (by assumption)⟩ | exact ⟨Ne.symm (m3_3.ne m0_0 (by assumption))⟩)
        have hX := hX.upd hU3_4.but gb3_3
        have m3_3 := hU3_4.blk
        refine xl_nil ?_
        refine xthen_normal ?_
        refine xc_seq ?_
        refine xc_seq ?_
        refine xc_region ?_
        refine xl_pure rfl rfl rfl (pv_move (v := .slice _ _ _) rfl rfl) ?_
        refine xl_pure rfl rfl rfl (pv_len_l rfl rfl) ?_
        refine xl_pure rfl rfl rfl (pv_move (v := .int _ _) rfl rfl) ?_
        refine xl_nil ?_
        refine xthen_normal ?_
        refine xc_block ?_
        refine xc_loop (τ := Nat × List (List Int) × Option Addr × Nat × List Int) (fun t => [(0, .pointer (some ⟨bp, 0, none⟩)), (3, .func (.func 62) #[] #[]), (5, .pointer (some ⟨b0_0, 0, none⟩)), (9, .pointer (some ⟨b3_3, 0, none⟩)), (29, .slice sa s.length sc), (30, .int .i64 (s.length : Nat)), (31, .int .i64 (t.1 : Nat))]) (fun t H' => (t.1 ≤ s.length) ∧ (runE false k0 k1 k2 l s = runE false k0 k1 k2 t.2.1 (s.drop t.1)) ∧ (runX false k0 k1 k2 l s = runX false k0 k1 k2 t.2.1 (s.drop t.1)) ∧ (GooL t.2.1) ∧ (t.2.1.length ≤ l.length + t.1) ∧ (Blk H' bp (.slice t.2.2.1 (t.2.1).length t.2.2.2.1 :: ints (t.2.2.2.2)) 87) ∧ (RowsT H' 138 5 t.2.2.1 t.2.1) ∧ (t.2.1.length ≤ t.2.2.2.1) ∧ (t.2.2.1 = none → t.2.2.2.1 = 0) ∧ (Tots t.2.1 t.2.2.2.2) ∧ (Blk H' b3_3 (.slice a (l).length c :: ints (T)) 87) ∧ (RowsT H' 138 5 a l) ∧ (Blk H' b0_0 [.int .i64 k0, .int .i64 k1, .int .i64 k2, .int .i64 k3] 37) ∧ (But bp H H')) (fun t H' => s.length - t.1) (0, l, a, c, T) ?_ ?_ ?_
        · exact ⟨rfl, rfl, rfl, rfl, rfl, rfl, rfl, trivial⟩
        · skip
          exact ⟨Nat.zero_le _, rfl, rfl, hg, Nat.le_refl _, mp, hR, hc, hna, ht, m3_3, hR0, m0_0, hX⟩
        · intro σ
          clear hX mp hR hR0 m0_0 m3_3
          rintro ⟨i, y, a1, c1, T1⟩ Hl5 ⟨hi, hre, hrx, hgy, hly, mp, hR, hc1, hna1, hty, m3_3, hR0, m0_0, hX⟩
          replace hi : i ≤ s.length := hi
          replace hre : runE false k0 k1 k2 l s = runE false k0 k1 k2 y (s.drop i) := hre
          replace hrx : runX false k0 k1 k2 l s = runX false k0 k1 k2 y (s.drop i) := hrx
          replace hgy : GooL y := hgy
          replace hly : y.length ≤ l.length + i := hly
          replace mp : Blk Hl5 bp (.slice a1 (y).length c1 :: ints (T1)) 87 := mp
          replace hR : RowsT Hl5 138 5 a1 y := hR
          replace hc1 : y.length ≤ c1 := hc1
          replace hna1 : a1 = none → c1 = 0 := hna1
          replace hty : Tots y T1 := hty
          replace m3_3 : Blk Hl5 b3_3 (.slice a (l).length c :: ints (T)) 87 := m3_3
          replace hR0 : RowsT Hl5 138 5 a l := hR0
          replace m0_0 : Blk Hl5 b0_0 [.int .i64 k0, .int .i64 k1, .int .i64 k2, .int .i64 k3] 37 := m0_0
          replace hX : But bp H Hl5 := hX
          obtain ⟨sb, so, hse⟩ := (hS.but hX).at'
          have h8 := hg1_10.2
          have hok : AllOk k0 k1 k2 s := ⟨hi1_5, hg1_10⟩
          show XC _ _ _ (upds σ [(0, .pointer (some ⟨bp, 0, none⟩)), (3, .func (.func 62) #[] #[]), (5, .pointer (some ⟨b0_0, 0, none⟩)), (9, .pointer (some ⟨b3_3, 0, none⟩)), (29, .slice sa s.length sc), (30, .int .i64 (s.length : Nat)), (31, .int .i64 (i : Nat))]) _
          refine xc_seq ?_
          refine xc_region ?_
          refine xl_dec rfl rfl rfl (pv_lss rfl rfl rfl) (fun h5_0 => ?_) (fun h5_0 => ?_)
          · skip
            refine xl_nil ?_
            refine xthen_normal ?_
            refine xc_seq ?_
            refine xc_cond_t rfl ?_
            refine xc_skip ?_
            refine xthen_normal ?_
            refine xc_seq ?_
            refine xc_block ?_
            refine xc_seq ?_
            refine xc_region ?_
            refine xl_pure rfl rfl rfl (pv_indexAddr_l rfl (sl_eq (hse (by omega)).1) rfl (by omega)) ?_
            refine xl_light rfl rfl rfl (lv_load (v := .agg _) rfl rfl (by exact ld_stk (hse (by omega)).2 (by omega))) ?_
            refine xl_heavy rfl rfl rfl (hv_alloc rfl rfl) ?_
            rintro v6_2 H6_2 ⟨b6_2, rfl, hN6_2⟩
            have gb6_2 := hX.fresh hN6_2
            have nmp_6_2 := mp.apart hN6_2
            have nm0_0_6_2 := m0_0.apart hN6_2
            have nm3_3_6_2 := m3_3.apart hN6_2
            have mp := mp.ext hN6_2.ext
            have hR := hR.ext hN6_2.ext
            have hR0 := hR0.ext hN6_2.ext
            have m0_0 := m0_0.ext hN6_2.ext
            have m3_3 := m3_3.ext hN6_2.ext
            have hX := hX.transE hN6_2.ext
            have m6_2 := hN6_2.blk
            refine xl_store rfl rfl (hv_storeA (vs := [.int _ _, .int _ _]) rfl rfl rfl (m6_2) rfl (by rfl) rfl) ?_
            rintro v6_3 H6_3 ⟨hU6_3, hZ6_3⟩
            have mp := mp.off hU6_3.but (by first | exact nmp_6_2 | exact ⟨mp.ne m6_2 rfl⟩ | exact ⟨mp.ne m6_2 (by assumption)⟩ | exact ⟨Ne.symm (m6_2.ne mp (by assumption))⟩)
            have hR := hR.offT m6_2 hU6_3.but (by first | rfl | assumption)
            have hR0 := hR0.offT m6_2 hU6_3.but (by first | rfl | assumption)
            have m0_0 := m0_0.off hU6_3.but (by first | exact nm0_0_6_2 | exact ⟨m0_0.ne m6_2 rfl⟩ | exact ⟨m0_0.ne m6_2 (by assumption)⟩ | exact ⟨Ne.symm (m6_2.ne m0_0 (by assumption))⟩)
            have m3_3 := m3_3.off hU6_3.but (by first | exact nm3_3_6_2 | exact ⟨m3_3.ne m6_2 rfl⟩ | exact ⟨m3_3.ne m6_2 (by assumption)⟩ | exact ⟨Ne.symm (m6_2.ne m3_3 (by assumption))⟩)
            have hX := hX.upd hU6_3.but gb6_2
            have m6_2 := hU6_3.blk
            refine xl_nil ?_
            refine xthen_normal ?_
            refine xc_seq ?_
            obtain ⟨hx1, hx2, hq1, hq2⟩ := goods_at hg1_10 (show i < s.length by omega)
            refine xp_start rfl (by repeat (first | with_reducible exact np_fin | with_reducible exact np_ret | with_reducible refine np_then ?_ | with_reducible refine np_block ?_)) (by kernel_rfl) ?_
            refine xp_pure (i := 0) rfl (by kernel_rfl) (by kernel_rfl) rfl rfl rfl (pv_move rfl rfl) ?_
            refine xp_pure (i := 1) rfl (by kernel_rfl) (by kernel_rfl) rfl rfl rfl (pv_move (v := .pointer _) rfl rfl) ?_
            refine xp_light (i := 2) rfl (by kernel_rfl) (by kernel_rfl) rfl rfl rfl (lv_load (v := .agg _) rfl rfl (ld_blk_a m0_0 rfl rfl)) ?_
            refine xp_pure (i := 3) rfl (by kernel_rfl) (by kernel_rfl) rfl rfl rfl (pv_fieldAddr rfl rfl) ?_
            refine xp_light (i := 4) rfl (by kernel_rfl) (by kernel_rfl) rfl rfl rfl (lv_load (v := .int _ _) rfl rfl (ld_blk m6_2 rfl)) ?_
            refine xp_pure (i := 6) rfl (by kernel_rfl) (by kernel_rfl) rfl rfl rfl (pv_fieldAddr rfl rfl) ?_
            refine xp_light (i := 7) rfl (by kernel_rfl) (by kernel_rfl) rfl rfl rfl (lv_load (v := .int _ _) rfl rfl (ld_blk m6_2 rfl)) ?_
            refine xp_heavy (i := 5) (by kernel_rfl) ?_
            refine xph_val rfl rfl rfl rfl (hv_call (g := 82) rfl rfl (c82 k0 k1 k2 k3 (gx s i)) rfl) (pk (by kernel_rfl) (pd (by kernel_rfl) (pd (by kernel_rfl) pn))) ?_
            rintro v7_5 H7_5 ⟨rfl, hE7_5⟩
            have mp := mp.ext hE7_5
            have hR := hR.ext hE7_5
            have hR0 := hR0.ext hE7_5
            have m0_0 := m0_0.ext hE7_5
            have m3_3 := m3_3.ext hE7_5
            have m6_2 := m6_2.ext hE7_5
            have hX := hX.transE hE7_5
            refine ⟨(okc (lv_load (v := .int _ _) rfl rfl (ld_blk m6_2 rfl)) okn), ?_⟩
            refine xp_heavy (i := 8) (by kernel_rfl) ?_
            refine xph_val rfl rfl rfl rfl (hv_call (g := 62) rfl rfl (c62 mp hR hc1 hna1 (by omega) hgy hty k0 k1 k2 (gx s i) (gq s i)) rfl) (pd (by kernel_rfl) pn) ?_
            rintro v7_8 H7_8 ⟨a7_8, c7_8, T7_8, rfl, hB7_8, hT7_8, hR7_8, hc7_8, hna7_8, ht7_8⟩
            have hR := hR.offT mp hB7_8 (by first | rfl | assumption)
            have hR0 := hR0.offT mp hB7_8 (by first | rfl | assumption)
            have m0_0 := m0_0.off hB7_8 (by first | exact nmp_0_0.symm | exact ⟨m0_0.ne mp rfl⟩ | exact ⟨m0_0.ne mp (by assumption)⟩ | exact ⟨Ne.symm (mp.ne m0_0 (by assumption))⟩)
            have m3_3 := m3_3.off hB7_8 (by first | exact nmp_3_3.symm | exact ⟨m3_3.ne mp rfl⟩ | exact ⟨m3_3.ne mp (by assumption)⟩ | exact ⟨Ne.symm (mp.ne m3_3 (by assumption))⟩)
            have m6_2 := m6_2.off hB7_8 (by first | exact nmp_6_2.symm | exact ⟨m6_2.ne mp rfl⟩ | exact ⟨m6_2.ne mp (by assumption)⟩ | exact ⟨Ne.symm (mp.ne m6_2 (by assumption))⟩)
            have hX := hX.trans hB7_8
            have mp := hT7_8
            refine ⟨okn, ?_⟩
            refine xp_pure (i := 9) rfl (by kernel_rfl) (by kernel_rfl) rfl rfl rfl (pv_assign (v := .int _ _) rfl rfl) ?_
            refine xp_done (by kernel_rfl) ?_
            refine xthen_normal ?_
            refine xc_seq ?_
            refine xc_region ?_
            refine xl_pure rfl rfl rfl (pv_move (v := .int _ _) rfl rfl) ?_
            refine xl_ndec rfl rfl rfl (pv_neq rfl rfl rfl) (fun h8_1 => ?_) (fun h8_1 => ?_)
            · skip
              refine xl_nil ?_
              refine xthen_normal ?_
              refine xc_cond_f rfl ?_
              refine xc_skip ?_
              refine xblock_normal ?_
              refine xthen_normal ?_
              refine xc_region ?_
              refine xl_pure rfl rfl rfl (pv_add rfl rfl rfl (fit_i64 (by omega))) ?_
              refine xl_pure rfl rfl rfl (pv_move (v := .int _ _) rfl rfl) ?_
              refine xl_nil ?_
              refine xthen_normal ?_
              exact ⟨(i + 1, _, _, _, _), ⟨rfl, rfl, rfl, rfl, rfl, rfl, rfl, trivial⟩, ⟨by (try simp only); omega, hre.trans (run_next (d := false) (by omega) h8_1).1, hrx.trans (run_next (d := false) (by omega) h8_1).2, (goo_d (d := false) hgy rfl).1, Nat.le_trans (goo_d (d := false) hgy rfl).2 (by omega), mp, hR7_8, hc7_8, hna7_8, ht7_8, m3_3, hR0, m0_0, hX⟩, by (try simp only); omega⟩
            · skip
              refine xl_nil ?_
              refine xthen_normal ?_
              refine xc_cond_t rfl ?_
              refine xc_seq ?_
              have hty2 := ht7_8
              refine xc_region ?_
              refine xl_pure rfl rfl rfl (pv_move (v := .pointer _) rfl rfl) ?_
              refine xl_light rfl rfl rfl (lv_load (v := .agg _) rfl rfl (by exact ld_bins m3_3 ht.len)) ?_
              refine xl_pure rfl rfl rfl (pv_nilCheck_p rfl rfl) ?_
              refine xl_store rfl rfl (hv_storeA (vs := (.slice a (l).length c :: ints (T))) rfl rfl rfl (mp) (bins_len ht.len) (by simp [ints, hty2.len]) bins_one) ?_
              rintro v9_3 H9_3 ⟨hU9_3, hZ9_3⟩
              have hR := hR.offT mp hU9_3.but (by first | rfl | assumption)
              have hR0 := hR0.offT mp hU9_3.but (by first | rfl | assumption)
              have m0_0 := m0_0.off hU9_3.but (by first | exact nmp_0_0.symm | exact ⟨m0_0.ne mp rfl⟩ | exact ⟨m0_0.ne mp (by assumption)⟩ | exact ⟨Ne.symm (mp.ne m0_0 (by assumption))⟩)
              have m3_3 := m3_3.off hU9_3.but (by first | exact nmp_3_3.symm | exact ⟨m3_3.ne mp rfl⟩ | exact ⟨m3_3.ne mp (by assumption)⟩ | exact ⟨Ne.symm (mp.ne m3_3 (by assumption))⟩)
              have m6_2 := m6_2.off hU9_3.but (by first | exact nmp_6_2.symm | exact ⟨m6_2.ne mp rfl⟩ | exact ⟨m6_2.ne mp (by assumption)⟩ | exact ⟨Ne.symm (mp.ne m6_2 (by assumption))⟩)
              have hR7_8 := hR7_8.offT mp hU9_3.but (by first | rfl | assumption)
              have hX := hX.trans hU9_3.but
              have mp := hU9_3.blk
              refine xl_nil ?_
              refine xthen_normal ?_
              refine xc_seq ?_
              refine xc_region ?_
              refine xl_pure rfl rfl rfl (pv_move (v := .int _ _) rfl rfl) ?_
              refine xl_pure rfl rfl rfl (pv_assign (v := .int _ _) rfl rfl) ?_
              refine xl_nil ?_
              refine xthen_normal ?_
              refine xc_ret ?_
              refine xblock_ret ?_
              refine xthen_ret ?_
              refine xthen_ret ?_
              refine xblock_ret ?_
              refine xthen_ret ?_
              refine fin_ret (res1 (v := .int _ _) rfl rfl) ?_
              obtain ⟨e1, e2⟩ := all_stop hok (hre.trans (run_stop (d := false) (by omega) h8_1)) h8_1
              exact ⟨a, c, T, by rw [e1]; rfl, hX, by rw [e2]; exact mp, by rw [e2]; exact hR0, by rw [e2]; exact hc, hna, by rw [e2]; exact ht⟩
          · skip
            refine xl_nil ?_
            refine xthen_normal ?_
            refine xc_seq ?_
            refine xc_cond_f rfl ?_
            refine xc_exit ?_
            refine xthen_exit ?_
            refine xthen_exit ?_
            refine xblock_same ?_
            refine xthen_normal ?_
            refine xc_seq ?_
            refine xc_region ?_
            refine xl_pure rfl rfl rfl (pv_assign (v := .int _ _) rfl rfl) ?_
            refine xl_nil ?_
            refine xthen_normal ?_
            refine xc_ret ?_
            refine fin_ret (res1 (v := .int _ _) rfl rfl) ?_
            obtain rfl : i = s.length := by omega
            obtain ⟨e1, e2⟩ := all_done hok (hre.trans run_end.1) (hrx.trans run_end.2)
            exact ⟨a1, c1, T1, by rw [e1], hX, by rw [e2]; exact mp, by rw [e2]; exact hR, by rw [e2]; exact hc1, hna1, by rw [e2]; exact hty⟩
      · exact absurd (by decide) h1_11
    · skip
      refine xl_ndec rfl rfl rfl (pv_neq rfl rfl rfl) (fun h1_11 => ?_) (fun h1_11 => ?_)
      · exact absurd h1_11 (by decide)
      · skip
        refine xl_pure rfl rfl rfl (pv_pick_f (v := .bool _) rfl rfl rfl) ?_
        refine xl_nil ?_
        refine xthen_normal ?_
        refine xc_cond_t rfl ?_
        refine xc_seq ?_
        refine xc_region ?_
        refine xl_pure rfl rfl rfl (pv_assign (v := .int _ _) rfl rfl) ?_
        refine xl_nil ?_
        refine xthen_normal ?_
        refine xc_ret ?_
        refine xthen_ret ?_
        refine fin_ret (res1 (v := .int _ _) rfl rfl) ?_
        obtain ⟨e1, e2⟩ := all_arg (d := false) (l := l) (k0 := k0) (k1 := k1) (k2 := k2) (s := s) (fun h => by first | exact hi1_5 h.1 | exact hg1_10 h.2)
        exact ⟨a, c, T, by rw [e1], hX, by rw [e2]; exact mp, by rw [e2]; exact hR, by rw [e2]; exact hc, hna, by rw [e2]; exact ht⟩
  · skip
    refine xl_pure rfl rfl rfl (pv_not rfl rfl) ?_
    refine xl_pure rfl rfl rfl (pv_pick_f (v := .bool _) rfl rfl rfl) ?_
    refine xl_pure rfl rfl rfl (pv_move (v := .bool _) rfl rfl) ?_
    refine xl_skip rfl rfl rfl ?_
    refine xl_skip rfl rfl rfl ?_
    refine xl_skip rfl rfl rfl ?_
    refine xl_pure rfl rfl rfl (pv_pick_t (v := .bool _) rfl rfl rfl) ?_
    refine xl_nil ?_
    refine xthen_normal ?_
    refine xc_cond_t rfl ?_
    refine xc_seq ?_
    refine xc_region ?_
    refine xl_pure rfl rfl rfl (pv_assign (v := .int _ _) rfl rfl) ?_
    refine xl_nil ?_
    refine xthen_normal ?_
    refine xc_ret ?_
    refine xthen_ret ?_
    refine fin_ret (res1 (v := .int _ _) rfl rfl) ?_
    obtain ⟨e1, e2⟩ := all_arg (d := false) (l := l) (k0 := k0) (k1 := k1) (k2 := k2) (s := s) (fun h => by first | exact hi1_5 h.1 | exact hg1_10 h.2)
    exact ⟨a, c, T, by rw [e1], hX, by rw [e2]; exact mp, by rw [e2]; exact hR, by rw [e2]; exact hc, hna, by rw [e2]; exact ht⟩

theorem c58 {O : Outer} {H : Heap} {bp c : Nat} {a : Option Addr} {l : List (List Int)} {T : List Int} (mp : Blk H bp (.slice a (l).length c :: ints (T)) 87) (hR : RowsT H 138 5 a l) (hc : l.length ≤ c) (hna : a = none → c = 0) (hl : l.length < 900000) (hg : GooL l) (ht : Tots l T) (k0 k1 k2 k3 : Int) {sa : Option Addr} {sc : Nat} {s : List Stack} (hS : StksO H bp sa s) (hsl : s.length < 1099511627776) :
    FnC Try.prog 58 #[.pointer (some ⟨bp, 0, none⟩), .agg #[.int .i64 k0, .int .i64 k1, .int .i64 k2, .int .i64 k3], .slice sa s.length sc] O H (fun v H' => ∃ a' c' T', v = .int .i64 (allE true l k0 k1 k2 s) ∧ But bp H H' ∧ Blk H' bp (.slice a' (allX true l k0 k1 k2 s).length c' :: ints (T')) 87 ∧ RowsT H' 138 5 a' (allX true l k0 k1 k2 s) ∧ (allX true l k0 k1 k2 s).length ≤ c' ∧ (a' = none → c' = 0) ∧ Tots (allX true l k0 k1 k2 s) T') := by
  refine fn_enter (A := [.pointer (some ⟨bp, 0, none⟩), .agg #[.int .i64 k0, .int .i64 k1, .int .i64 k2, .int .i64 k3], .slice sa s.length sc]) Try.func58 rfl rfl ?_
  have hX := But.refl bp H
  refine xc_seq ?_
  refine xc_region ?_
  refine xl_heavy rfl rfl rfl (hv_box rfl rfl) ?_
  rintro v0_0 H0_0 ⟨b0_0, rfl, hN0_0⟩
  have gb0_0 := hX.fresh hN0_0
  have nmp_0_0 := mp.apart hN0_0
  have mp := mp.ext hN0_0.ext
  have hR := hR.ext hN0_0.ext
  have hX := hX.transE hN0_0.ext
  have m0_0 := hN0_0.blk
  refine xl_pure rfl rfl rfl (pv_assign (v := .int _ _) rfl rfl) ?_
  refine xl_nil ?_
  refine xthen_normal ?_
  refine xc_seq ?_
  refine xc_region ?_
  refine xl_pure rfl rfl rfl (pv_move (v := .pointer _) rfl rfl) ?_
  refine xl_light rfl rfl rfl (lv_load (v := .agg _) rfl rfl (ld_blk_a m0_0 rfl rfl)) ?_
  refine xl_pure rfl rfl rfl (pv_move (v := .slice _ _ _) rfl rfl) ?_
  refine xl_heavy rfl rfl rfl (hv_call (g := 85) rfl rfl (c85p mp hR hc hna (by omega) hg ht k0 k1 k2 k3 (hS.butO hX) hsl) rfl) ?_
  rintro v1_3 H1_3 ⟨a1_3, c1_3, T1_3, rfl, hB1_3, hT1_3, hR1_3, hc1_3, hna1_3, ht1_3⟩
  have hR := hR.offT mp hB1_3 (by first | rfl | assumption)
  have m0_0 := m0_0.off hB1_3 (by first | exact nmp_0_0.symm | exact ⟨m0_0.ne mp rfl⟩ | exact ⟨m0_0.ne mp (by assumption)⟩ | exact ⟨Ne.symm (mp.ne m0_0 (by assumption))⟩)
  have hX := hX.trans hB1_3
  have mp := hT1_3
  refine xl_pure rfl rfl rfl (pv_assign (v := .int _ _) rfl rfl) ?_
  refine xl_nil ?_
  refine xthen_normal ?_
  refine xc_ret ?_
  refine fin_ret (res1 (v := .int _ _) rfl rfl) ?_
  exact ⟨_, _, _, rfl, hX, mp, hR1_3, hc1_3, hna1_3, ht1_3⟩

theorem c57 {O : Outer} {H : Heap} {bp c : Nat} {a : Option Addr} {l : List (List Int)} {T : List Int} (mp : Blk H bp (.slice a (l).length c :: ints (T)) 87) (hR : RowsT H 138 5 a l) (hc : l.length ≤ c) (hna : a = none → c = 0) (hl : l.length < 900000) (hg : GooL l) (ht : Tots l T) (k0 k1 k2 k3 : Int) {sa : Option Addr} {sc : Nat} {s : List Stack} (hS : StksO H bp sa s) (hsl : s.length < 1099511627776) :
    FnC Try.prog 57 #[.pointer (some ⟨bp, 0, none⟩), .agg #[.int .i64 k0, .int .i64 k1, .int .i64 k2, .int .i64 k3], .slice sa s.length sc] O H (fun v H' => ∃ a' c' T', v = .int .i64 (allE false l k0 k1 k2 s) ∧ But bp H H' ∧ Blk H' bp (.slice a' (allX false l k0 k1 k2 s).length c' :: ints (T')) 87 ∧ RowsT H' 138 5 a' (allX false l k0 k1 k2 s) ∧ (allX false l k0 k1 k2 s).length ≤ c' ∧ (a' = none → c' = 0) ∧ Tots (allX false l k0 k1 k2 s) T') := by
  refine fn_enter (A := [.pointer (some ⟨bp, 0, none⟩), .agg #[.int .i64 k0, .int .i64 k1, .int .i64 k2, .int .i64 k3], .slice sa s.length sc]) Try.func57 rfl rfl ?_
  have hX := But.refl bp H
  refine xc_seq ?_
  refine xc_region ?_
  refine xl_heavy rfl rfl rfl (hv_box rfl rfl) ?_
  rintro v0_0 H0_0 ⟨b0_0, rfl, hN0_0⟩
  have gb0_0 := hX.fresh hN0_0
  have nmp_0_0 := mp.apart hN0_0
  have mp := mp.ext hN0_0.ext
  have hR := hR.ext hN0_0.ext
  have hX := hX.transE hN0_0.ext
  have m0_0 := hN0_0.blk
  refine xl_pure rfl rfl rfl (pv_assign (v := .int _ _) rfl rfl) ?_
  refine xl_nil ?_
  refine xthen_normal ?_
  refine xc_seq ?_
  refine xc_region ?_
  refine xl_pure rfl rfl rfl (pv_move (v := .pointer _) rfl rfl) ?_
  refine xl_light rfl rfl rfl (lv_load (v := .agg _) rfl rfl (ld_blk_a m0_0 rfl rfl)) ?_
  refine xl_pure rfl rfl rfl (pv_move (v := .slice _ _ _) rfl rfl) ?_
  refine xl_heavy rfl rfl rfl (hv_call (g := 85) rfl rfl (c85t mp hR hc hna (by omega) hg ht k0 k1 k2 k3 (hS.butO hX) hsl) rfl) ?_
  rintro v1_3 H1_3 ⟨a1_3, c1_3, T1_3, rfl, hB1_3, hT1_3, hR1_3, hc1_3, hna1_3, ht1_3⟩
  have hR := hR.offT mp hB1_3 (by first | rfl | assumption)
  have m0_0 := m0_0.off hB1_3 (by first | exact nmp_0_0.symm | exact ⟨m0_0.ne mp rfl⟩ | exact ⟨m0_0.ne mp (by assumption)⟩ | exact ⟨Ne.symm (mp.ne m0_0 (by assumption))⟩)
  have hX := hX.trans hB1_3
  have mp := hT1_3
  refine xl_pure rfl rfl rfl (pv_assign (v := .int _ _) rfl rfl) ?_
  refine xl_nil ?_
  refine xthen_normal ?_
  refine xc_ret ?_
  refine fin_ret (res1 (v := .int _ _) rfl rfl) ?_
  exact ⟨_, _, _, rfl, hX, mp, hR1_3, hc1_3, hna1_3, ht1_3⟩
end Go.XG
