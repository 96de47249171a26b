/-
  Walks of the seat's functions over the logic XG: each function, what it computes. Printed by a program out of wip/walks.py.
-/
import Derived.Test.YtoabjfmegnjicaaI
import Derived.Test.YtoabjfmegnjicaaTo
import Derived.Test.YtoabjfmegnjicaaTa
import Derived.Test.YtoabjfmegnjicaaTb
import Derived.Test.YtoabjfmegnjicaaTc
import Derived.Test.YtoabjfmegnjicaaTd
import Derived.Test.YtoabjfmegnjicaaQ
import Derived.Test.YtoabjfmegnjicaaWa
import Derived.Test.YtoabjfmegnjicaaWb
import Derived.Test.YtoabjfmegnjicaaWc
import Derived.Test.YtoabjfmegnjicaaWd
import Derived.Test.YtoabjfmegnjicaaWe
import Derived.Test.YtoabjfmegnjicaaB
namespace Go.XG
open Go.Proofs
set_option maxRecDepth 4000
set_option maxHeartbeats 4000000
theorem c25 {O : Outer} {H : Heap} {bp c : Nat} {a : Option Addr} {l : List (List Int)} {T : List Int} (mp : Blk H bp (.slice a (l).length c :: ints (T)) 62) (hR : RowsT H 88 5 a l) (hc : l.length ≤ c) (hna : a = none → c = 0) (hl : l.length < 1000000) (hg : GooL l) (ht : Tots l T) (k0 k1 k2 k3 : Int) (n : Int) (hn : n < 9223372036854775808) :
    FnC Try.prog 25 #[.pointer (some ⟨bp, 0, none⟩), .agg #[.int .i64 k0, .int .i64 k1, .int .i64 k2, .int .i64 k3], .int .i64 n] O H (fun v H' => ∃ a' c' T', v = .int .i64 (layE l [k0, k1, k2, k3] n) ∧ But bp H H' ∧ Blk H' bp (.slice a' (layX l [k0, k1, k2, k3] n).length c' :: ints (T')) 62 ∧ RowsT H' 88 5 a' (layX l [k0, k1, k2, k3] n) ∧ (layX l [k0, k1, k2, k3] n).length ≤ c' ∧ (a' = none → c' = 0) ∧ Tots (layX l [k0, k1, k2, k3] n) T') := by
  refine fn_enter (A := [.pointer (some ⟨bp, 0, none⟩), .agg #[.int .i64 k0, .int .i64 k1, .int .i64 k2, .int .i64 k3], .int .i64 n]) Try.func25 rfl rfl ?_
  have hX := But.refl bp H
  refine xc_seq ?_
  refine xc_region ?_
  refine xl_heavy rfl rfl rfl (hv_box rfl rfl) ?_
  rintro v0_0 H0_0 ⟨b0_0, rfl, hN0_0⟩
  have gb0_0 := hX.fresh hN0_0
  have nmp_0_0 := mp.apart hN0_0
  have mp := mp.ext hN0_0.ext
  have hR := hR.ext hN0_0.ext
  have hX := hX.transE hN0_0.ext
  have m0_0 := hN0_0.blk
  refine xl_pure rfl rfl rfl (pv_assign (v := .int _ _) rfl rfl) ?_
  refine xl_nil ?_
  refine xthen_normal ?_
  refine xc_seq ?_
  refine xc_block ?_
  refine xc_seq ?_
  refine xc_region ?_
  refine xl_pure rfl rfl rfl (pv_move (v := .pointer _) rfl rfl) ?_
  refine xl_pure rfl rfl rfl (pv_eql_pn rfl rfl rfl) ?_
  refine xl_pure rfl rfl rfl (pv_move (v := .bool _) rfl rfl) ?_
  refine xl_light rfl rfl rfl (lv_load (v := .agg _) rfl rfl (ld_blk_a m0_0 rfl rfl)) ?_
  refine xl_heavy rfl rfl rfl (hv_call (g := 34) rfl rfl (c34 k0 k1 k2 k3) rfl) ?_
  rintro v1_4 H1_4 ⟨hv1_4, hE1_4⟩
  have mp := mp.ext hE1_4
  have hR := hR.ext hE1_4
  have m0_0 := m0_0.ext hE1_4
  have hX := hX.transE hE1_4
  rcases hv1_4 with ⟨hi1_4, rfl⟩ | ⟨hi1_4, rfl⟩
  · skip
    refine xl_pure rfl rfl rfl (pv_not rfl rfl) ?_
    refine xl_pure rfl rfl rfl (pv_pick_f (v := .bool _) rfl rfl rfl) ?_
    refine xl_pure rfl rfl rfl (pv_move (v := .bool _) rfl rfl) ?_
    refine xl_pure rfl rfl rfl (pv_move (v := .int _ _) rfl rfl) ?_
    refine xl_dec rfl rfl rfl (pv_lss rfl rfl rfl) (fun h1_9 => ?_) (fun h1_9 => ?_)
    · skip
      refine xl_pure rfl rfl rfl (pv_pick_f (v := .bool _) rfl rfl rfl) ?_
      refine xl_pure rfl rfl rfl (pv_assign (v := .bool _) rfl rfl) ?_
      refine xl_nil ?_
      refine xthen_normal ?_
      refine xc_cond_t rfl ?_
      refine xc_seq ?_
      refine xc_region ?_
      refine xl_pure rfl rfl rfl (pv_assign (v := .int _ _) rfl rfl) ?_
      refine xl_nil ?_
      refine xthen_normal ?_
      refine xc_ret ?_
      refine xblock_ret ?_
      refine xthen_ret ?_
      refine fin_ret (res1 (v := .int _ _) rfl rfl) ?_
      obtain ⟨e1, e2⟩ := lay_arg (l := l) (k := [k0, k1, k2, k3]) (n := n) (by first | exact .inl hi1_4 | exact .inr (by omega))
      exact ⟨a, c, T, by rw [e1], hX, by rw [e2]; exact mp, by rw [e2]; exact hR, by rw [e2]; exact hc, hna, by rw [e2]; exact ht⟩
    · skip
      refine xl_pure rfl rfl rfl (pv_pick_f (v := .bool _) rfl rfl rfl) ?_
      refine xl_pure rfl rfl rfl (pv_assign (v := .bool _) rfl rfl) ?_
      refine xl_nil ?_
      refine xthen_normal ?_
      refine xc_cond_f rfl ?_
      refine xc_seq ?_
      have hkb := isB_iff.1 hi1_4
      have hq := hg.qty (k := [k0, k1, k2, k3]) rfl
      have hq3 : totB l k3 ≤ 1125899906842624 := hg.max k3
      have hq2 : qtyB l [k0, k1, k2, k3] ≤ totB l k3 := hq.2
      have htt := ht.h k3 hkb.2.2.2.1 hkb.2.2.2.2
      refine xp_start rfl (by repeat (first | with_reducible exact np_fin | with_reducible exact np_ret | with_reducible refine np_then ?_ | with_reducible refine np_block ?_)) (by kernel_rfl) ?_
      refine xp_pure (i := 0) rfl (by kernel_rfl) (by kernel_rfl) rfl rfl rfl (pv_move (v := .int _ _) rfl rfl) ?_
      refine xp_pure (i := 1) rfl (by kernel_rfl) (by kernel_rfl) rfl rfl rfl (pv_move (v := .pointer _) rfl rfl) ?_
      refine xp_pure (i := 2) rfl (by kernel_rfl) (by kernel_rfl) rfl rfl rfl (pv_fieldAddr rfl rfl) ?_
      refine xp_light (i := 3) rfl (by kernel_rfl) (by kernel_rfl) rfl rfl rfl (lv_load (v := .int _ _) rfl rfl (ld_blk m0_0 rfl)) ?_
      refine xp_pure (i := 4) rfl (by kernel_rfl) (by kernel_rfl) rfl rfl rfl (pv_nilCheck_p rfl rfl) ?_
      refine xp_pure (i := 5) rfl (by kernel_rfl) (by kernel_rfl) rfl rfl rfl (pv_fieldAddr rfl rfl) ?_
      refine xp_pure (i := 6) rfl (by kernel_rfl) (by kernel_rfl) rfl rfl rfl (pv_indexAddr_a rfl rfl rfl (by omega)) ?_
      refine xp_light (i := 7) rfl (by kernel_rfl) (by kernel_rfl) rfl rfl rfl (lv_load (v := .int _ _) rfl rfl (by exact ld_tot mp (by have := ht.len; omega))) ?_
      refine xp_pure (i := 8) rfl (by kernel_rfl) (by kernel_rfl) rfl rfl rfl (pv_sub rfl rfl rfl (fit_i64 (by omega))) ?_
      refine xp_dec (i := 9) rfl (by kernel_rfl) (by kernel_rfl) rfl rfl rfl (pv_gtr rfl rfl rfl) (fun h3_9 => ?_) (fun h3_9 => ?_)
      · skip
        refine xp_pure (i := 10) rfl (by kernel_rfl) (by kernel_rfl) rfl rfl rfl (pv_assign (v := .bool _) rfl rfl) ?_
        refine xp_done (by kernel_rfl) ?_
        refine xthen_normal ?_
        refine xc_cond_t rfl ?_
        refine xc_seq ?_
        refine xc_region ?_
        refine xl_pure rfl rfl rfl (pv_assign (v := .int _ _) rfl rfl) ?_
        refine xl_nil ?_
        refine xthen_normal ?_
        refine xc_ret ?_
        refine xblock_ret ?_
        refine xthen_ret ?_
        refine fin_ret (res1 (v := .int _ _) rfl rfl) ?_
        obtain ⟨e1, e2⟩ := lay_over (l := l) (k := [k0, k1, k2, k3]) (n := n) (by rintro (h | h); exact h hi1_4; omega) (show 1125899906842624 - totB l k3 < n by omega)
        exact ⟨a, c, T, by rw [e1], hX, by rw [e2]; exact mp, by rw [e2]; exact hR, by rw [e2]; exact hc, hna, by rw [e2]; exact ht⟩
      · skip
        refine xp_pure (i := 10) rfl (by kernel_rfl) (by kernel_rfl) rfl rfl rfl (pv_assign (v := .bool _) rfl rfl) ?_
        refine xp_done (by kernel_rfl) ?_
        refine xthen_normal ?_
        refine xc_cond_f rfl ?_
        refine xc_skip ?_
        refine xblock_normal ?_
        refine xthen_normal ?_
        refine xc_seq ?_
        refine xc_region ?_
        refine xl_pure rfl rfl rfl (pv_move (v := .pointer _) rfl rfl) ?_
        refine xl_light rfl rfl rfl (lv_load (v := .agg _) rfl rfl (ld_blk_a m0_0 rfl rfl)) ?_
        refine xl_pure rfl rfl rfl (pv_move (v := .int _ _) rfl rfl) ?_
        refine xl_heavy rfl rfl rfl (hv_call (g := 37) rfl rfl (c37 mp hR hc hna hl hg.srt ht.len k0 k1 k2 k3 n ⟨hkb.2.2.2.1, hkb.2.2.2.2⟩ ⟨by omega, by omega⟩ ⟨by omega, by omega⟩ ⟨by omega, by omega⟩) rfl) ?_
        rintro v5_3 H5_3 ⟨a5_3, c5_3, hB5_3, hT5_3, hR5_3, hc5_3, hna5_3⟩
        have hR := hR.offT mp hB5_3 (by first | rfl | assumption)
        have m0_0 := m0_0.off hB5_3 (by first | exact nmp_0_0.symm | exact ⟨m0_0.ne mp rfl⟩ | exact ⟨m0_0.ne mp (by assumption)⟩ | exact ⟨Ne.symm (mp.ne m0_0 (by assumption))⟩)
        have hX := hX.trans hB5_3
        have mp := hT5_3
        refine xl_nil ?_
        refine xthen_normal ?_
        refine xc_seq ?_
        refine xc_region ?_
        refine xl_pure rfl rfl rfl (pv_assign (v := .int _ _) rfl rfl) ?_
        refine xl_nil ?_
        refine xthen_normal ?_
        refine xc_ret ?_
        refine fin_ret (res1 (v := .int _ _) rfl rfl) ?_
        obtain ⟨e1, e2⟩ := lay_ok (l := l) (k := [k0, k1, k2, k3]) (n := n) (by rintro (h | h); exact h hi1_4; omega) (show ¬ 1125899906842624 - totB l k3 < n by omega)
        exact ⟨_, _, _, by rw [e1], hX, by rw [e2]; exact mp, by rw [e2]; exact hR5_3, by rw [e2]; exact hc5_3, hna5_3, by rw [e2]; exact ht.set hg.srt hg.wide (k := [k0, k1, k2, k3]) rfl ⟨hkb.2.2.2.1, hkb.2.2.2.2⟩⟩
  · skip
    refine xl_pure rfl rfl rfl (pv_not rfl rfl) ?_
    refine xl_pure rfl rfl rfl (pv_pick_f (v := .bool _) rfl rfl rfl) ?_
    refine xl_pure rfl rfl rfl (pv_move (v := .bool _) rfl rfl) ?_
    refine xl_skip rfl rfl rfl ?_
    refine xl_skip rfl rfl rfl ?_
    refine xl_pure rfl rfl rfl (pv_pick_t (v := .bool _) rfl rfl rfl) ?_
    refine xl_pure rfl rfl rfl (pv_assign (v := .bool _) rfl rfl) ?_
    refine xl_nil ?_
    refine xthen_normal ?_
    refine xc_cond_t rfl ?_
    refine xc_seq ?_
    refine xc_region ?_
    refine xl_pure rfl rfl rfl (pv_assign (v := .int _ _) rfl rfl) ?_
    refine xl_nil ?_
    refine xthen_normal ?_
    refine xc_ret ?_
    refine xblock_ret ?_
    refine xthen_ret ?_
    refine fin_ret (res1 (v := .int _ _) rfl rfl) ?_
    obtain ⟨e1, e2⟩ := lay_arg (l := l) (k := [k0, k1, k2, k3]) (n := n) (by first | exact .inl hi1_4 | exact .inr (by omega))
    exact ⟨a, c, T, by rw [e1], hX, by rw [e2]; exact mp, by rw [e2]; exact hR, by rw [e2]; exact hc, hna, by rw [e2]; exact ht⟩

theorem c17 {O : Outer} {H : Heap} {bp c : Nat} {a : Option Addr} {l : List (List Int)} {T : List Int} (mp : Blk H bp (.slice a (l).length c :: ints (T)) 62) (hR : RowsT H 88 5 a l) (hc : l.length ≤ c) (hna : a = none → c = 0) (hl : l.length < 1000000) (hg : GooL l) (ht : Tots l T) (k0 k1 k2 k3 : Int) (n : Int) :
    FnC Try.prog 17 #[.pointer (some ⟨bp, 0, none⟩), .agg #[.int .i64 k0, .int .i64 k1, .int .i64 k2, .int .i64 k3], .int .i64 n] O H (fun v H' => ∃ a' c' T', v = .int .i64 (takE l [k0, k1, k2, k3] n) ∧ But bp H H' ∧ Blk H' bp (.slice a' (takX l [k0, k1, k2, k3] n).length c' :: ints (T')) 62 ∧ RowsT H' 88 5 a' (takX l [k0, k1, k2, k3] n) ∧ (takX l [k0, k1, k2, k3] n).length ≤ c' ∧ (a' = none → c' = 0) ∧ Tots (takX l [k0, k1, k2, k3] n) T') := by
  refine fn_enter (A := [.pointer (some ⟨bp, 0, none⟩), .agg #[.int .i64 k0, .int .i64 k1, .int .i64 k2, .int .i64 k3], .int .i64 n]) Try.func17 rfl rfl ?_
  have hX := But.refl bp H
  refine xc_seq ?_
  refine xc_region ?_
  refine xl_heavy rfl rfl rfl (hv_box rfl rfl) ?_
  rintro v0_0 H0_0 ⟨b0_0, rfl, hN0_0⟩
  have gb0_0 := hX.fresh hN0_0
  have nmp_0_0 := mp.apart hN0_0
  have mp := mp.ext hN0_0.ext
  have hR := hR.ext hN0_0.ext
  have hX := hX.transE hN0_0.ext
  have m0_0 := hN0_0.blk
  refine xl_pure rfl rfl rfl (pv_assign (v := .int _ _) rfl rfl) ?_
  refine xl_nil ?_
  refine xthen_normal ?_
  refine xc_seq ?_
  refine xc_block ?_
  refine xc_seq ?_
  refine xc_region ?_
  refine xl_pure rfl rfl rfl (pv_move (v := .pointer _) rfl rfl) ?_
  refine xl_pure rfl rfl rfl (pv_eql_pn rfl rfl rfl) ?_
  refine xl_pure rfl rfl rfl (pv_move (v := .bool _) rfl rfl) ?_
  refine xl_light rfl rfl rfl (lv_load (v := .agg _) rfl rfl (ld_blk_a m0_0 rfl rfl)) ?_
  refine xl_heavy rfl rfl rfl (hv_call (g := 34) rfl rfl (c34 k0 k1 k2 k3) rfl) ?_
  rintro v1_4 H1_4 ⟨hv1_4, hE1_4⟩
  have mp := mp.ext hE1_4
  have hR := hR.ext hE1_4
  have m0_0 := m0_0.ext hE1_4
  have hX := hX.transE hE1_4
  rcases hv1_4 with ⟨hi1_4, rfl⟩ | ⟨hi1_4, rfl⟩
  · skip
    refine xl_pure rfl rfl rfl (pv_not rfl rfl) ?_
    refine xl_pure rfl rfl rfl (pv_pick_f (v := .bool _) rfl rfl rfl) ?_
    refine xl_pure rfl rfl rfl (pv_move (v := .bool _) rfl rfl) ?_
    refine xl_pure rfl rfl rfl (pv_move (v := .int _ _) rfl rfl) ?_
    refine xl_dec rfl rfl rfl (pv_lss rfl rfl rfl) (fun h1_9 => ?_) (fun h1_9 => ?_)
    · skip
      refine xl_pure rfl rfl rfl (pv_pick_f (v := .bool _) rfl rfl rfl) ?_
      refine xl_pure rfl rfl rfl (pv_assign (v := .bool _) rfl rfl) ?_
      refine xl_nil ?_
      refine xthen_normal ?_
      refine xc_cond_t rfl ?_
      refine xc_seq ?_
      refine xc_region ?_
      refine xl_pure rfl rfl rfl (pv_assign (v := .int _ _) rfl rfl) ?_
      refine xl_nil ?_
      refine xthen_normal ?_
      refine xc_ret ?_
      refine xblock_ret ?_
      refine xthen_ret ?_
      refine fin_ret (res1 (v := .int _ _) rfl rfl) ?_
      obtain ⟨e1, e2⟩ := tak_arg (l := l) (k := [k0, k1, k2, k3]) (n := n) (by first | exact .inl hi1_4 | exact .inr (by omega))
      exact ⟨a, c, T, by rw [e1], hX, by rw [e2]; exact mp, by rw [e2]; exact hR, by rw [e2]; exact hc, hna, by rw [e2]; exact ht⟩
    · skip
      refine xl_pure rfl rfl rfl (pv_pick_f (v := .bool _) rfl rfl rfl) ?_
      refine xl_pure rfl rfl rfl (pv_assign (v := .bool _) rfl rfl) ?_
      refine xl_nil ?_
      refine xthen_normal ?_
      refine xc_cond_f rfl ?_
      refine xc_seq ?_
      have hkb := isB_iff.1 hi1_4
      have hq := hg.qty (k := [k0, k1, k2, k3]) rfl
      have hq3 : totB l k3 ≤ 1125899906842624 := hg.max k3
      have hq2 : qtyB l [k0, k1, k2, k3] ≤ totB l k3 := hq.2
      have htt := ht.h k3 hkb.2.2.2.1 hkb.2.2.2.2
      refine xc_region ?_
      refine xl_pure rfl rfl rfl (pv_move (v := .int _ _) rfl rfl) ?_
      refine xl_pure rfl rfl rfl (pv_move (v := .pointer _) rfl rfl) ?_
      refine xl_light rfl rfl rfl (lv_load (v := .agg _) rfl rfl (ld_blk_a m0_0 rfl rfl)) ?_
      refine xl_heavy rfl rfl rfl (hv_call (g := 10) rfl rfl (c10 mp hR hc hna hl hg.srt ht.len k0 k1 k2 k3) rfl) ?_
      rintro v3_3 H3_3 ⟨rfl, hE3_3⟩
      have mp := mp.ext hE3_3
      have hR := hR.ext hE3_3
      have m0_0 := m0_0.ext hE3_3
      have hX := hX.transE hE3_3
      refine xl_dec rfl rfl rfl (pv_gtr rfl rfl rfl) (fun h3_4 => ?_) (fun h3_4 => ?_)
      · skip
        refine xl_pure rfl rfl rfl (pv_assign (v := .bool _) rfl rfl) ?_
        refine xl_nil ?_
        refine xthen_normal ?_
        refine xc_cond_t rfl ?_
        refine xc_seq ?_
        refine xc_region ?_
        refine xl_pure rfl rfl rfl (pv_assign (v := .int _ _) rfl rfl) ?_
        refine xl_nil ?_
        refine xthen_normal ?_
        refine xc_ret ?_
        refine xblock_ret ?_
        refine xthen_ret ?_
        refine fin_ret (res1 (v := .int _ _) rfl rfl) ?_
        obtain ⟨e1, e2⟩ := tak_items (l := l) (k := [k0, k1, k2, k3]) (n := n) (by rintro (h | h); exact h hi1_4; omega) (by omega)
        exact ⟨a, c, T, by rw [e1], hX, by rw [e2]; exact mp, by rw [e2]; exact hR, by rw [e2]; exact hc, hna, by rw [e2]; exact ht⟩
      · skip
        refine xl_pure rfl rfl rfl (pv_assign (v := .bool _) rfl rfl) ?_
        refine xl_nil ?_
        refine xthen_normal ?_
        refine xc_cond_f rfl ?_
        refine xc_skip ?_
        refine xblock_normal ?_
        refine xthen_normal ?_
        refine xc_seq ?_
        refine xc_region ?_
        refine xl_pure rfl rfl rfl (pv_move (v := .pointer _) rfl rfl) ?_
        refine xl_light rfl rfl rfl (lv_load (v := .agg _) rfl rfl (ld_blk_a m0_0 rfl rfl)) ?_
        refine xl_pure rfl rfl rfl (pv_move (v := .int _ _) rfl rfl) ?_
        refine xl_pure rfl rfl rfl (pv_neg rfl rfl (fit_i64 (by omega))) ?_
        refine xl_heavy rfl rfl rfl (hv_call (g := 37) rfl rfl (c37 mp hR hc hna hl hg.srt ht.len k0 k1 k2 k3 (-n) ⟨hkb.2.2.2.1, hkb.2.2.2.2⟩ ⟨by omega, by omega⟩ ⟨by omega, by omega⟩ ⟨by omega, by omega⟩) rfl) ?_
        rintro v5_4 H5_4 ⟨a5_4, c5_4, hB5_4, hT5_4, hR5_4, hc5_4, hna5_4⟩
        have hR := hR.offT mp hB5_4 (by first | rfl | assumption)
        have m0_0 := m0_0.off hB5_4 (by first | exact nmp_0_0.symm | exact ⟨m0_0.ne mp rfl⟩ | exact ⟨m0_0.ne mp (by assumption)⟩ | exact ⟨Ne.symm (mp.ne m0_0 (by assumption))⟩)
        have hX := hX.trans hB5_4
        have mp := hT5_4
        refine xl_nil ?_
        refine xthen_normal ?_
        refine xc_seq ?_
        refine xc_region ?_
        refine xl_pure rfl rfl rfl (pv_assign (v := .int _ _) rfl rfl) ?_
        refine xl_nil ?_
        refine xthen_normal ?_
        refine xc_ret ?_
        refine fin_ret (res1 (v := .int _ _) rfl rfl) ?_
        obtain ⟨e1, e2⟩ := tak_ok (l := l) (k := [k0, k1, k2, k3]) (n := n) (by rintro (h | h); exact h hi1_4; omega) (by omega)
        exact ⟨_, _, _, by rw [e1], hX, by rw [e2]; exact mp, by rw [e2]; exact hR5_4, by rw [e2]; exact hc5_4, hna5_4, by rw [e2]; exact ht.set (n := -n) hg.srt hg.wide (k := [k0, k1, k2, k3]) rfl ⟨hkb.2.2.2.1, hkb.2.2.2.2⟩⟩
  · skip
    refine xl_pure rfl rfl rfl (pv_not rfl rfl) ?_
    refine xl_pure rfl rfl rfl (pv_pick_f (v := .bool _) rfl rfl rfl) ?_
    refine xl_pure rfl rfl rfl (pv_move (v := .bool _) rfl rfl) ?_
    refine xl_skip rfl rfl rfl ?_
    refine xl_skip rfl rfl rfl ?_
    refine xl_pure rfl rfl rfl (pv_pick_t (v := .bool _) rfl rfl rfl) ?_
    refine xl_pure rfl rfl rfl (pv_assign (v := .bool _) rfl rfl) ?_
    refine xl_nil ?_
    refine xthen_normal ?_
    refine xc_cond_t rfl ?_
    refine xc_seq ?_
    refine xc_region ?_
    refine xl_pure rfl rfl rfl (pv_assign (v := .int _ _) rfl rfl) ?_
    refine xl_nil ?_
    refine xthen_normal ?_
    refine xc_ret ?_
    refine xblock_ret ?_
    refine xthen_ret ?_
    refine fin_ret (res1 (v := .int _ _) rfl rfl) ?_
    obtain ⟨e1, e2⟩ := tak_arg (l := l) (k := [k0, k1, k2, k3]) (n := n) (by first | exact .inl hi1_4 | exact .inr (by omega))
    exact ⟨a, c, T, by rw [e1], hX, by rw [e2]; exact mp, by rw [e2]; exact hR, by rw [e2]; exact hc, hna, by rw [e2]; exact ht⟩
end Go.XG
