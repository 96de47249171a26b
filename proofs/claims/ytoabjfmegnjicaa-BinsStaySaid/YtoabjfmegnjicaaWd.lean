/-
  Walks of the seat's functions over the logic XG: each function, what it computes. Printed by a program out of wip/walks.py.
-/
import Derived.Test.YtoabjfmegnjicaaI
import Derived.Test.YtoabjfmegnjicaaTo
import Derived.Test.YtoabjfmegnjicaaTa
import Derived.Test.YtoabjfmegnjicaaTb
import Derived.Test.YtoabjfmegnjicaaTc
import Derived.Test.YtoabjfmegnjicaaTd
import Derived.Test.YtoabjfmegnjicaaQ
import Derived.Test.YtoabjfmegnjicaaWa
import Derived.Test.YtoabjfmegnjicaaWb
import Derived.Test.YtoabjfmegnjicaaWc
namespace Go.XG
open Go.Proofs
set_option maxRecDepth 4000
set_option maxHeartbeats 4000000
theorem c37 {O : Outer} {H : Heap} {bp c : Nat} {a : Option Addr} {l : List (List Int)} {T : List Int} (mp : Blk H bp (.slice a (l).length c :: ints (T)) 62) (hR : RowsT H 88 5 a l) (hc : l.length ≤ c) (hna : a = none → c = 0) (hl : l.length < 1000000) (hs : Srt l) (hT : T.length = 33) (k0 k1 k2 k3 : Int) (n : Int) (hk3 : 1 ≤ k3 ∧ k3 ≤ 32) (h1 : -2305843009213693952 ≤ qtyB l [k0, k1, k2, k3] ∧ qtyB l [k0, k1, k2, k3] ≤ 2305843009213693952) (h2 : -2305843009213693952 ≤ n ∧ n ≤ 2305843009213693952) (h3 : -2305843009213693952 ≤ T.getD k3.toNat 0 ∧ T.getD k3.toNat 0 ≤ 2305843009213693952) :
    FnC Try.prog 37 #[.pointer (some ⟨bp, 0, none⟩), .agg #[.int .i64 k0, .int .i64 k1, .int .i64 k2, .int .i64 k3], .int .i64 n] O H (fun _ H' => ∃ a' c', But bp H H' ∧ Blk H' bp (.slice a' ((setB l [k0, k1, k2, k3] (qtyB l [k0, k1, k2, k3] + n))).length c' :: ints (T.set k3.toNat (T.getD k3.toNat 0 + n))) 62 ∧ RowsT H' 88 5 a' ((setB l [k0, k1, k2, k3] (qtyB l [k0, k1, k2, k3] + n))) ∧ ((setB l [k0, k1, k2, k3] (qtyB l [k0, k1, k2, k3] + n))).length ≤ c' ∧ (a' = none → c' = 0)) := by
  refine fn_enter (A := [.pointer (some ⟨bp, 0, none⟩), .agg #[.int .i64 k0, .int .i64 k1, .int .i64 k2, .int .i64 k3], .int .i64 n]) Try.func37 rfl rfl ?_
  have hX := But.refl bp H
  refine xc_seq ?_
  refine xc_region ?_
  refine xl_heavy rfl rfl rfl (hv_box rfl rfl) ?_
  rintro v0_0 H0_0 ⟨b0_0, rfl, hN0_0⟩
  have gb0_0 := hX.fresh hN0_0
  have nmp_0_0 := mp.apart hN0_0
  have mp := mp.ext hN0_0.ext
  have hR := hR.ext hN0_0.ext
  have hX := hX.transE hN0_0.ext
  have m0_0 := hN0_0.blk
  refine xl_nil ?_
  refine xthen_normal ?_
  refine xc_seq ?_
  refine xc_region ?_
  refine xl_pure rfl rfl rfl (pv_move (v := .pointer _) rfl rfl) ?_
  refine xl_light rfl rfl rfl (lv_load (v := .agg _) rfl rfl (ld_blk_a m0_0 rfl rfl)) ?_
  refine xl_heavy rfl rfl rfl (hv_call (g := 10) rfl rfl (c10 mp hR hc hna hl hs hT k0 k1 k2 k3) rfl) ?_
  rintro v1_2 H1_2 ⟨rfl, hE1_2⟩
  have mp := mp.ext hE1_2
  have hR := hR.ext hE1_2
  have m0_0 := m0_0.ext hE1_2
  have hX := hX.transE hE1_2
  refine xl_pure rfl rfl rfl (pv_move (v := .int _ _) rfl rfl) ?_
  refine xl_pure rfl rfl rfl (pv_add rfl rfl rfl (fit_i64 (by omega))) ?_
  refine xl_pure rfl rfl rfl (pv_assign (v := .int _ _) rfl rfl) ?_
  refine xl_nil ?_
  refine xthen_normal ?_
  refine xc_seq ?_
  refine xc_seq ?_
  refine xc_region ?_
  refine xl_pure rfl rfl rfl (pv_move (v := .int _ _) rfl rfl) ?_
  refine xl_dec rfl rfl rfl (pv_eql rfl rfl rfl) (fun h2_1 => ?_) (fun h2_1 => ?_)
  · skip
    refine xl_nil ?_
    refine xthen_normal ?_
    refine xc_cond_t rfl ?_
    refine xp_start rfl (by repeat (first | with_reducible exact np_fin | with_reducible exact np_ret | with_reducible refine np_then ?_ | with_reducible refine np_block ?_)) (by kernel_rfl) ?_
    refine xp_pure (i := 0) rfl (by kernel_rfl) (by kernel_rfl) rfl rfl rfl (pv_move (v := .pointer _) rfl rfl) ?_
    refine xp_pure (i := 1) rfl (by kernel_rfl) (by kernel_rfl) rfl rfl rfl (pv_nilCheck_p rfl rfl) ?_
    refine xp_pure (i := 2) rfl (by kernel_rfl) (by kernel_rfl) rfl rfl rfl (pv_fieldAddr rfl rfl) ?_
    refine xp_light (i := 3) rfl (by kernel_rfl) (by kernel_rfl) rfl rfl rfl (lv_load (v := .agg _) rfl rfl (ld_blk_a m0_0 rfl rfl)) ?_
    refine xp_heavy (i := 4) (by kernel_rfl) ?_
    refine xph_val rfl rfl rfl rfl (hv_call (g := 29) rfl rfl (c29 k0 k1 k2 k3) rfl) (pd (by kernel_rfl) pn) ?_
    rintro v3_4 H3_4 ⟨rfl, hE3_4⟩
    have mp := mp.ext hE3_4
    have hR := hR.ext hE3_4
    have m0_0 := m0_0.ext hE3_4
    have hX := hX.transE hE3_4
    refine ⟨okn, ?_⟩
    refine xp_heavy (i := 5) (by kernel_rfl) ?_
    refine xph_val rfl rfl rfl rfl (hv_call (g := 52) rfl rfl (c52 mp hR rfl hs hc hna (by omega) [k0, k1, k2, k3] rfl) rfl) pn ?_
    rintro v3_5 H3_5 ⟨a3_5, c3_5, hv3_5, hU3_5, hR3_5, hc3_5, hna3_5⟩
    have hR := hR.offT mp hU3_5.but (by first | rfl | assumption)
    have m0_0 := m0_0.off hU3_5.but (by first | exact nmp_0_0.symm | exact ⟨m0_0.ne mp rfl⟩ | exact ⟨m0_0.ne mp (by assumption)⟩ | exact ⟨Ne.symm (mp.ne m0_0 (by assumption))⟩)
    have hX := hX.trans hU3_5.but
    have mp := hU3_5.blk
    have es : (setB l [k0, k1, k2, k3] (qtyB l [k0, k1, k2, k3] + n)) = delR l [k0, k1, k2, k3] := if_pos h2_1
    rw [← es] at mp hR3_5 hc3_5
    have hRn := hR3_5; have hcn := hc3_5; have hnan := hna3_5
    refine ⟨okn, ?_⟩
    refine xp_done (by kernel_rfl) ?_
    refine xthen_normal ?_
    refine xp_start rfl (by repeat (first | with_reducible exact np_fin | with_reducible exact np_ret | with_reducible refine np_then ?_ | with_reducible refine np_block ?_)) (by kernel_rfl) ?_
    refine xp_pure (i := 0) rfl (by kernel_rfl) (by kernel_rfl) rfl rfl rfl (pv_move (v := .pointer _) rfl rfl) ?_
    refine xp_pure (i := 1) rfl (by kernel_rfl) (by kernel_rfl) rfl rfl rfl (pv_fieldAddr rfl rfl) ?_
    refine xp_light (i := 2) rfl (by kernel_rfl) (by kernel_rfl) rfl rfl rfl (lv_load (v := .int _ _) rfl rfl (ld_blk m0_0 rfl)) ?_
    refine xp_pure (i := 3) rfl (by kernel_rfl) (by kernel_rfl) rfl rfl rfl (pv_nilCheck_p rfl rfl) ?_
    refine xp_pure (i := 4) rfl (by kernel_rfl) (by kernel_rfl) rfl rfl rfl (pv_fieldAddr rfl rfl) ?_
    refine xp_pure (i := 5) rfl (by kernel_rfl) (by kernel_rfl) rfl rfl rfl (pv_indexAddr_a rfl rfl rfl (by omega)) ?_
    refine xp_light (i := 6) rfl (by kernel_rfl) (by kernel_rfl) rfl rfl rfl (lv_load (v := .int _ _) rfl rfl (by exact ld_tot mp (by omega))) ?_
    refine xp_pure (i := 7) rfl (by kernel_rfl) (by kernel_rfl) rfl rfl rfl (pv_move (v := .int _ _) rfl rfl) ?_
    refine xp_pure (i := 8) rfl (by kernel_rfl) (by kernel_rfl) rfl rfl rfl (pv_add rfl rfl rfl (fit_i64 (by omega))) ?_
    refine xp_pure (i := 9) rfl (by kernel_rfl) (by kernel_rfl) rfl rfl rfl (pv_nilCheck_p rfl rfl) ?_
    refine xp_pure (i := 10) rfl (by kernel_rfl) (by kernel_rfl) rfl rfl rfl (pv_fieldAddr rfl rfl) ?_
    refine xp_pure (i := 11) rfl (by kernel_rfl) (by kernel_rfl) rfl rfl rfl (pv_indexAddr_a rfl rfl rfl (by omega)) ?_
    refine xp_heavy (i := 12) (by kernel_rfl) ?_
    refine xph_store rfl rfl rfl (hv_store (vs := [.int .i64 (T.getD k3.toNat 0 + n)]) rfl rfl rfl (mp) rfl (by simp [ints, hT]; omega) rfl) (pd (by kernel_rfl) (pd (by kernel_rfl) pn)) ?_
    rintro v5_12 H5_12 ⟨hU5_12, hZ5_12⟩
    have hR := hR.offT mp hU5_12.but (by first | rfl | assumption)
    have m0_0 := m0_0.off hU5_12.but (by first | exact nmp_0_0.symm | exact ⟨m0_0.ne mp rfl⟩ | exact ⟨m0_0.ne mp (by assumption)⟩ | exact ⟨Ne.symm (mp.ne m0_0 (by assumption))⟩)
    have hR3_5 := hR3_5.offT mp hU5_12.but (by first | rfl | assumption)
    have hX := hX.trans hU5_12.but
    have mp := hU5_12.blk
    rw [Nat.mul_one, set_tot (by omega)] at mp
    refine ⟨okn, ?_⟩
    refine xp_done (by kernel_rfl) ?_
    refine fin_normal (res0 rfl) ?_
    first
      | exact ⟨_, _, hX, mp, hR3_5, hc3_5, hna3_5⟩
      | exact ⟨_, _, hX, mp, hR4_6, hc4_6, hna4_6⟩
  · skip
    refine xl_nil ?_
    refine xthen_normal ?_
    refine xc_cond_f rfl ?_
    refine xp_start rfl (by repeat (first | with_reducible exact np_fin | with_reducible exact np_ret | with_reducible refine np_then ?_ | with_reducible refine np_block ?_)) (by kernel_rfl) ?_
    refine xp_pure (i := 0) rfl (by kernel_rfl) (by kernel_rfl) rfl rfl rfl (pv_move (v := .pointer _) rfl rfl) ?_
    refine xp_pure (i := 1) rfl (by kernel_rfl) (by kernel_rfl) rfl rfl rfl (pv_nilCheck_p rfl rfl) ?_
    refine xp_pure (i := 2) rfl (by kernel_rfl) (by kernel_rfl) rfl rfl rfl (pv_fieldAddr rfl rfl) ?_
    refine xp_light (i := 3) rfl (by kernel_rfl) (by kernel_rfl) rfl rfl rfl (lv_load (v := .agg _) rfl rfl (ld_blk_a m0_0 rfl rfl)) ?_
    refine xp_pure (i := 5) rfl (by kernel_rfl) (by kernel_rfl) rfl rfl rfl (pv_move (v := .int _ _) rfl rfl) ?_
    refine xp_heavy (i := 4) (by kernel_rfl) ?_
    refine xph_val rfl rfl rfl rfl (hv_call (g := 29) rfl rfl (c29 k0 k1 k2 k3) rfl) (pd (by kernel_rfl) pn) ?_
    rintro v4_4 H4_4 ⟨rfl, hE4_4⟩
    have mp := mp.ext hE4_4
    have hR := hR.ext hE4_4
    have m0_0 := m0_0.ext hE4_4
    have hX := hX.transE hE4_4
    refine ⟨okn, ?_⟩
    refine xp_heavy (i := 6) (by kernel_rfl) ?_
    refine xph_val rfl rfl rfl rfl (hv_call (g := 35) rfl rfl (c35 mp hR rfl hs hc hna (by omega) [k0, k1, k2, k3] rfl (qtyB l [k0, k1, k2, k3] + n)) rfl) pn ?_
    rintro v4_6 H4_6 ⟨a4_6, c4_6, hv4_6, hU4_6, hR4_6, hc4_6, hna4_6⟩
    have hR := hR.offT mp hU4_6.but (by first | rfl | assumption)
    have m0_0 := m0_0.off hU4_6.but (by first | exact nmp_0_0.symm | exact ⟨m0_0.ne mp rfl⟩ | exact ⟨m0_0.ne mp (by assumption)⟩ | exact ⟨Ne.symm (mp.ne m0_0 (by assumption))⟩)
    have hX := hX.trans hU4_6.but
    have mp := hU4_6.blk
    have es : (setB l [k0, k1, k2, k3] (qtyB l [k0, k1, k2, k3] + n)) = putR l ([k0, k1, k2, k3] ++ [qtyB l [k0, k1, k2, k3] + n]) := if_neg h2_1
    rw [← es] at mp hR4_6 hc4_6
    have hRn := hR4_6; have hcn := hc4_6; have hnan := hna4_6
    refine ⟨okn, ?_⟩
    refine xp_done (by kernel_rfl) ?_
    refine xthen_normal ?_
    refine xp_start rfl (by repeat (first | with_reducible exact np_fin | with_reducible exact np_ret | with_reducible refine np_then ?_ | with_reducible refine np_block ?_)) (by kernel_rfl) ?_
    refine xp_pure (i := 0) rfl (by kernel_rfl) (by kernel_rfl) rfl rfl rfl (pv_move (v := .pointer _) rfl rfl) ?_
    refine xp_pure (i := 1) rfl (by kernel_rfl) (by kernel_rfl) rfl rfl rfl (pv_fieldAddr rfl rfl) ?_
    refine xp_light (i := 2) rfl (by kernel_rfl) (by kernel_rfl) rfl rfl rfl (lv_load (v := .int _ _) rfl rfl (ld_blk m0_0 rfl)) ?_
    refine xp_pure (i := 3) rfl (by kernel_rfl) (by kernel_rfl) rfl rfl rfl (pv_nilCheck_p rfl rfl) ?_
    refine xp_pure (i := 4) rfl (by kernel_rfl) (by kernel_rfl) rfl rfl rfl (pv_fieldAddr rfl rfl) ?_
    refine xp_pure (i := 5) rfl (by kernel_rfl) (by kernel_rfl) rfl rfl rfl (pv_indexAddr_a rfl rfl rfl (by omega)) ?_
    refine xp_light (i := 6) rfl (by kernel_rfl) (by kernel_rfl) rfl rfl rfl (lv_load (v := .int _ _) rfl rfl (by exact ld_tot mp (by omega))) ?_
    refine xp_pure (i := 7) rfl (by kernel_rfl) (by kernel_rfl) rfl rfl rfl (pv_move (v := .int _ _) rfl rfl) ?_
    refine xp_pure (i := 8) rfl (by kernel_rfl) (by kernel_rfl) rfl rfl rfl (pv_add rfl rfl rfl (fit_i64 (by omega))) ?_
    refine xp_pure (i := 9) rfl (by kernel_rfl) (by kernel_rfl) rfl rfl rfl (pv_nilCheck_p rfl rfl) ?_
    refine xp_pure (i := 10) rfl (by kernel_rfl) (by kernel_rfl) rfl rfl rfl (pv_fieldAddr rfl rfl) ?_
    refine xp_pure (i := 11) rfl (by kernel_rfl) (by kernel_rfl) rfl rfl rfl (pv_indexAddr_a rfl rfl rfl (by omega)) ?_
    refine xp_heavy (i := 12) (by kernel_rfl) ?_
    refine xph_store rfl rfl rfl (hv_store (vs := [.int .i64 (T.getD k3.toNat 0 + n)]) rfl rfl rfl (mp) rfl (by simp [ints, hT]; omega) rfl) (pd (by kernel_rfl) (pd (by kernel_rfl) pn)) ?_
    rintro v5_12 H5_12 ⟨hU5_12, hZ5_12⟩
    have hR := hR.offT mp hU5_12.but (by first | rfl | assumption)
    have m0_0 := m0_0.off hU5_12.but (by first | exact nmp_0_0.symm | exact ⟨m0_0.ne mp rfl⟩ | exact ⟨m0_0.ne mp (by assumption)⟩ | exact ⟨Ne.symm (mp.ne m0_0 (by assumption))⟩)
    have hR4_6 := hR4_6.offT mp hU5_12.but (by first | rfl | assumption)
    have hX := hX.trans hU5_12.but
    have mp := hU5_12.blk
    rw [Nat.mul_one, set_tot (by omega)] at mp
    refine ⟨okn, ?_⟩
    refine xp_done (by kernel_rfl) ?_
    refine fin_normal (res0 rfl) ?_
    first
      | exact ⟨_, _, hX, mp, hR3_5, hc3_5, hna3_5⟩
      | exact ⟨_, _, hX, mp, hR4_6, hc4_6, hna4_6⟩
end Go.XG
