/-
  Walks of the seat's functions over the logic XG: each function, what it computes. Printed by a program out of wip/walks.py.
-/
import Derived.Test.YtoabjfmegnjicaaI
import Derived.Test.YtoabjfmegnjicaaTo
import Derived.Test.YtoabjfmegnjicaaTa
import Derived.Test.YtoabjfmegnjicaaTb
import Derived.Test.YtoabjfmegnjicaaTc
import Derived.Test.YtoabjfmegnjicaaTd
import Derived.Test.YtoabjfmegnjicaaQ
import Derived.Test.YtoabjfmegnjicaaWa
import Derived.Test.YtoabjfmegnjicaaWb
import Derived.Test.YtoabjfmegnjicaaWc
import Derived.Test.YtoabjfmegnjicaaWd
import Derived.Test.YtoabjfmegnjicaaWe
import Derived.Test.YtoabjfmegnjicaaB
import Derived.Test.YtoabjfmegnjicaaWf
import Derived.Test.YtoabjfmegnjicaaD
import Derived.Test.YtoabjfmegnjicaaWg
namespace Go.XG
open Go.Proofs
set_option maxRecDepth 4000
set_option maxHeartbeats 4000000
theorem c26 {O : Outer} {H : Heap} {bp c : Nat} {a : Option Addr} {l : List (List Int)} {T : List Int} (mp : Blk H bp (.slice a (l).length c :: ints (T)) 62) (hR : RowsT H 88 5 a l) (hc : l.length ≤ c) (hna : a = none → c = 0) (hl : l.length < 900000) (hg : GooL l) (ht : Tots l T) (k0 k1 k2 k3 : Int) (m0 m1 m2 m3 : Int) (n : Int) :
    FnC Try.prog 26 #[.pointer (some ⟨bp, 0, none⟩), .agg #[.int .i64 k0, .int .i64 k1, .int .i64 k2, .int .i64 k3], .agg #[.int .i64 m0, .int .i64 m1, .int .i64 m2, .int .i64 m3], .int .i64 n] O H (fun v H' => ∃ a' c' T', v = .int .i64 (movE l [k0, k1, k2, k3] [m0, m1, m2, m3] n) ∧ But bp H H' ∧ Blk H' bp (.slice a' (movX l [k0, k1, k2, k3] [m0, m1, m2, m3] n).length c' :: ints (T')) 62 ∧ RowsT H' 88 5 a' (movX l [k0, k1, k2, k3] [m0, m1, m2, m3] n) ∧ (movX l [k0, k1, k2, k3] [m0, m1, m2, m3] n).length ≤ c' ∧ (a' = none → c' = 0) ∧ Tots (movX l [k0, k1, k2, k3] [m0, m1, m2, m3] n) T') := by
  refine fn_enter (A := [.pointer (some ⟨bp, 0, none⟩), .agg #[.int .i64 k0, .int .i64 k1, .int .i64 k2, .int .i64 k3], .agg #[.int .i64 m0, .int .i64 m1, .int .i64 m2, .int .i64 m3], .int .i64 n]) Try.func26 rfl rfl ?_
  have hX := But.refl bp H
  refine xc_seq ?_
  refine xc_region ?_
  refine xl_heavy rfl rfl rfl (hv_box rfl rfl) ?_
  rintro v0_0 H0_0 ⟨b0_0, rfl, hN0_0⟩
  have gb0_0 := hX.fresh hN0_0
  have nmp_0_0 := mp.apart hN0_0
  have mp := mp.ext hN0_0.ext
  have hR := hR.ext hN0_0.ext
  have hX := hX.transE hN0_0.ext
  have m0_0 := hN0_0.blk
  refine xl_heavy rfl rfl rfl (hv_box rfl rfl) ?_
  rintro v0_1 H0_1 ⟨b0_1, rfl, hN0_1⟩
  have gb0_1 := hX.fresh hN0_1
  have nmp_0_1 := mp.apart hN0_1
  have nm0_0_0_1 := m0_0.apart hN0_1
  have mp := mp.ext hN0_1.ext
  have hR := hR.ext hN0_1.ext
  have m0_0 := m0_0.ext hN0_1.ext
  have hX := hX.transE hN0_1.ext
  have m0_1 := hN0_1.blk
  refine xl_pure rfl rfl rfl (pv_assign (v := .int _ _) rfl rfl) ?_
  refine xl_nil ?_
  refine xthen_normal ?_
  refine xc_seq ?_
  refine xc_seq ?_
  refine xc_region ?_
  refine xl_light rfl rfl rfl (lv_load (v := .agg _) rfl rfl (ld_blk_a m0_1 rfl rfl)) ?_
  refine xl_heavy rfl rfl rfl (hv_call (g := 34) rfl rfl (c34 m0 m1 m2 m3) rfl) ?_
  rintro v1_1 H1_1 ⟨hv1_1, hE1_1⟩
  have mp := mp.ext hE1_1
  have hR := hR.ext hE1_1
  have m0_0 := m0_0.ext hE1_1
  have m0_1 := m0_1.ext hE1_1
  have hX := hX.transE hE1_1
  rcases hv1_1 with ⟨hi1_1, rfl⟩ | ⟨hi1_1, rfl⟩
  · skip
    refine xl_pure rfl rfl rfl (pv_not rfl rfl) ?_
    refine xl_pure rfl rfl rfl (pv_move (v := .bool _) rfl rfl) ?_
    refine xl_pure rfl rfl rfl (pv_fieldAddr rfl rfl) ?_
    refine xl_light rfl rfl rfl (lv_load (v := .int _ _) rfl rfl (ld_blk m0_0 rfl)) ?_
    refine xl_pure rfl rfl rfl (pv_fieldAddr rfl rfl) ?_
    refine xl_light rfl rfl rfl (lv_load (v := .int _ _) rfl rfl (ld_blk m0_1 rfl)) ?_
    refine xl_ndec rfl rfl rfl (pv_neq rfl rfl rfl) (fun h1_8 => ?_) (fun h1_8 => ?_)
    · skip
      refine xl_pure rfl rfl rfl (pv_pick_f (v := .bool _) rfl rfl rfl) ?_
      refine xl_nil ?_
      refine xthen_normal ?_
      refine xc_cond_f rfl ?_
      refine xc_skip ?_
      refine xthen_normal ?_
      refine xc_seq ?_
      refine xc_region ?_
      refine xl_pure rfl rfl rfl (pv_move (v := .pointer _) rfl rfl) ?_
      refine xl_light rfl rfl rfl (lv_load (v := .agg _) rfl rfl (ld_blk_a m0_0 rfl rfl)) ?_
      refine xl_pure rfl rfl rfl (pv_move (v := .int _ _) rfl rfl) ?_
      refine xl_heavy rfl rfl rfl (hv_call (g := 17) rfl rfl (c17 mp hR hc hna (by omega) hg ht k0 k1 k2 k3 n) rfl) ?_
      rintro v3_3 H3_3 ⟨a3_3, c3_3, T3_3, rfl, hB3_3, hT3_3, hR3_3, hc3_3, hna3_3, ht3_3⟩
      have hR := hR.offT mp hB3_3 (by first | rfl | assumption)
      have m0_0 := m0_0.off hB3_3 (by first | exact nmp_0_0.symm | exact ⟨m0_0.ne mp rfl⟩ | exact ⟨m0_0.ne mp (by assumption)⟩ | exact ⟨Ne.symm (mp.ne m0_0 (by assumption))⟩)
      have m0_1 := m0_1.off hB3_3 (by first | exact nmp_0_1.symm | exact ⟨m0_1.ne mp rfl⟩ | exact ⟨m0_1.ne mp (by assumption)⟩ | exact ⟨Ne.symm (mp.ne m0_1 (by assumption))⟩)
      have hX := hX.trans hB3_3
      have mp := hT3_3
      refine xl_pure rfl rfl rfl (pv_assign (v := .int _ _) rfl rfl) ?_
      refine xl_nil ?_
      refine xthen_normal ?_
      refine xc_seq ?_
      refine xc_seq ?_
      refine xc_region ?_
      refine xl_pure rfl rfl rfl (pv_move (v := .int _ _) rfl rfl) ?_
      refine xl_dec rfl rfl rfl (pv_eql rfl rfl rfl) (fun h4_1 => ?_) (fun h4_1 => ?_)
      · skip
        refine xl_nil ?_
        refine xthen_normal ?_
        refine xc_cond_t rfl ?_
        have hmb := isB_iff.1 hi1_1
        obtain ⟨hik, hn0, hnq, hxt⟩ := tak_zero h4_1
        obtain ⟨hgt, hlt⟩ := goo_tak (k := [k0, k1, k2, k3]) (n := n) hg rfl
        have hq := hgt.qty (k := [m0, m1, m2, m3]) rfl
        have hqk := hg.qty (k := [k0, k1, k2, k3]) rfl
        have hqk2 : qtyB l [k0, k1, k2, k3] ≤ totB l k3 := hqk.2
        have hmx : totB l k3 ≤ 1125899906842624 := hg.max k3
        have hq2 : qtyB (takX l [k0, k1, k2, k3] n) [m0, m1, m2, m3] ≤ totB (takX l [k0, k1, k2, k3] n) m3 := hq.2
        have hq3 : totB (takX l [k0, k1, k2, k3] n) m3 ≤ 1125899906842624 := hgt.max m3
        have htt := ht3_3.h m3 hmb.2.2.2.1 hmb.2.2.2.2
        refine xc_region ?_
        refine xl_pure rfl rfl rfl (pv_move (v := .pointer _) rfl rfl) ?_
        refine xl_light rfl rfl rfl (lv_load (v := .agg _) rfl rfl (ld_blk_a m0_1 rfl rfl)) ?_
        refine xl_pure rfl rfl rfl (pv_move (v := .int _ _) rfl rfl) ?_
        refine xl_heavy rfl rfl rfl (hv_call (g := 37) rfl rfl (c37 mp hR3_3 hc3_3 hna3_3 (by omega) hgt.srt ht3_3.len m0 m1 m2 m3 n ⟨hmb.2.2.2.1, hmb.2.2.2.2⟩ ⟨by omega, by omega⟩ ⟨by omega, by omega⟩ ⟨by omega, by omega⟩) rfl) ?_
        rintro v5_3 H5_3 ⟨a5_3, c5_3, hB5_3, hT5_3, hR5_3, hc5_3, hna5_3⟩
        have hR := hR.offT mp hB5_3 (by first | rfl | assumption)
        have m0_0 := m0_0.off hB5_3 (by first | exact nmp_0_0.symm | exact ⟨m0_0.ne mp rfl⟩ | exact ⟨m0_0.ne mp (by assumption)⟩ | exact ⟨Ne.symm (mp.ne m0_0 (by assumption))⟩)
        have m0_1 := m0_1.off hB5_3 (by first | exact nmp_0_1.symm | exact ⟨m0_1.ne mp rfl⟩ | exact ⟨m0_1.ne mp (by assumption)⟩ | exact ⟨Ne.symm (mp.ne m0_1 (by assumption))⟩)
        have hR3_3 := hR3_3.offT mp hB5_3 (by first | rfl | assumption)
        have hX := hX.trans hB5_3
        have mp := hT5_3
        refine xl_nil ?_
        refine xthen_normal ?_
        refine xc_seq ?_
        refine xc_region ?_
        refine xl_pure rfl rfl rfl (pv_move (v := .int _ _) rfl rfl) ?_
        refine xl_pure rfl rfl rfl (pv_assign (v := .int _ _) rfl rfl) ?_
        refine xl_nil ?_
        refine xthen_normal ?_
        refine xc_ret ?_
        refine fin_ret (res1 (v := .int _ _) rfl rfl) ?_
        have hna2 : ¬ (¬ IsB [m0, m1, m2, m3] ∨ ([k0, k1, k2, k3] : List Int).getD 3 0 ≠ ([m0, m1, m2, m3] : List Int).getD 3 0) := by rintro (h | h); exact h hi1_1; exact h h1_8
        first
          | (obtain ⟨e1, e2⟩ := mov_ok (l := l) (k := [k0, k1, k2, k3]) (m := [m0, m1, m2, m3]) (n := n) hna2 h4_1; exact ⟨_, _, _, by rw [e1, h4_1], hX, by rw [e2]; exact mp, by rw [e2]; exact hR5_3, by rw [e2]; exact hc5_3, hna5_3, by rw [e2]; exact ht3_3.set hgt.srt hgt.wide (k := [m0, m1, m2, m3]) rfl ⟨hmb.2.2.2.1, hmb.2.2.2.2⟩⟩)
          | (obtain ⟨e1, e2⟩ := mov_no (l := l) (k := [k0, k1, k2, k3]) (m := [m0, m1, m2, m3]) (n := n) hna2 h4_1; have ex : takX l [k0, k1, k2, k3] n = l := if_neg h4_1; rw [ex] at mp hR3_3 hc3_3 ht3_3; exact ⟨_, _, _, by rw [e1], hX, by rw [e2]; exact mp, by rw [e2]; exact hR3_3, by rw [e2]; exact hc3_3, hna3_3, by rw [e2]; exact ht3_3⟩)
      · skip
        refine xl_nil ?_
        refine xthen_normal ?_
        refine xc_cond_f rfl ?_
        refine xc_skip ?_
        refine xthen_normal ?_
        refine xc_seq ?_
        refine xc_region ?_
        refine xl_pure rfl rfl rfl (pv_move (v := .int _ _) rfl rfl) ?_
        refine xl_pure rfl rfl rfl (pv_assign (v := .int _ _) rfl rfl) ?_
        refine xl_nil ?_
        refine xthen_normal ?_
        refine xc_ret ?_
        refine fin_ret (res1 (v := .int _ _) rfl rfl) ?_
        have hna2 : ¬ (¬ IsB [m0, m1, m2, m3] ∨ ([k0, k1, k2, k3] : List Int).getD 3 0 ≠ ([m0, m1, m2, m3] : List Int).getD 3 0) := by rintro (h | h); exact h hi1_1; exact h h1_8
        first
          | (obtain ⟨e1, e2⟩ := mov_ok (l := l) (k := [k0, k1, k2, k3]) (m := [m0, m1, m2, m3]) (n := n) hna2 h4_1; exact ⟨_, _, _, by rw [e1, h4_1], hX, by rw [e2]; exact mp, by rw [e2]; exact hR5_3, by rw [e2]; exact hc5_3, hna5_3, by rw [e2]; exact ht3_3.set hgt.srt hgt.wide (k := [m0, m1, m2, m3]) rfl ⟨hmb.2.2.2.1, hmb.2.2.2.2⟩⟩)
          | (obtain ⟨e1, e2⟩ := mov_no (l := l) (k := [k0, k1, k2, k3]) (m := [m0, m1, m2, m3]) (n := n) hna2 h4_1; have ex : takX l [k0, k1, k2, k3] n = l := if_neg h4_1; rw [ex] at mp hR3_3 hc3_3 ht3_3; exact ⟨_, _, _, by rw [e1], hX, by rw [e2]; exact mp, by rw [e2]; exact hR3_3, by rw [e2]; exact hc3_3, hna3_3, by rw [e2]; exact ht3_3⟩)
    · skip
      refine xl_pure rfl rfl rfl (pv_pick_f (v := .bool _) rfl rfl rfl) ?_
      refine xl_nil ?_
      refine xthen_normal ?_
      refine xc_cond_t rfl ?_
      refine xc_seq ?_
      refine xc_region ?_
      refine xl_pure rfl rfl rfl (pv_assign (v := .int _ _) rfl rfl) ?_
      refine xl_nil ?_
      refine xthen_normal ?_
      refine xc_ret ?_
      refine xthen_ret ?_
      refine fin_ret (res1 (v := .int _ _) rfl rfl) ?_
      obtain ⟨e1, e2⟩ := mov_arg (l := l) (k := [k0, k1, k2, k3]) (m := [m0, m1, m2, m3]) (n := n) (by first | exact .inl hi1_1 | exact .inr (fun h => h1_8 h) | exact .inr h1_8)
      exact ⟨a, c, T, by rw [e1], hX, by rw [e2]; exact mp, by rw [e2]; exact hR, by rw [e2]; exact hc, hna, by rw [e2]; exact ht⟩
  · skip
    refine xl_pure rfl rfl rfl (pv_not rfl rfl) ?_
    refine xl_pure rfl rfl rfl (pv_move (v := .bool _) rfl rfl) ?_
    refine xl_skip rfl rfl rfl ?_
    refine xl_skip rfl rfl rfl ?_
    refine xl_skip rfl rfl rfl ?_
    refine xl_skip rfl rfl rfl ?_
    refine xl_skip rfl rfl rfl ?_
    refine xl_pure rfl rfl rfl (pv_pick_t (v := .bool _) rfl rfl rfl) ?_
    refine xl_nil ?_
    refine xthen_normal ?_
    refine xc_cond_t rfl ?_
    refine xc_seq ?_
    refine xc_region ?_
    refine xl_pure rfl rfl rfl (pv_assign (v := .int _ _) rfl rfl) ?_
    refine xl_nil ?_
    refine xthen_normal ?_
    refine xc_ret ?_
    refine xthen_ret ?_
    refine fin_ret (res1 (v := .int _ _) rfl rfl) ?_
    obtain ⟨e1, e2⟩ := mov_arg (l := l) (k := [k0, k1, k2, k3]) (m := [m0, m1, m2, m3]) (n := n) (by first | exact .inl hi1_1 | exact .inr (fun h => h1_8 h) | exact .inr h1_8)
    exact ⟨a, c, T, by rw [e1], hX, by rw [e2]; exact mp, by rw [e2]; exact hR, by rw [e2]; exact hc, hna, by rw [e2]; exact ht⟩
end Go.XG
