/-
  Walks of the seat's functions over the logic XG: each function, what it computes. Printed by a program out of wip/walks.py.
-/
import Derived.Test.YtjlhjjjhblcokaaI
import Derived.Test.YtjlhjjjhblcokaaXs
import Derived.Test.YtjlhjjjhblcokaaTo
import Derived.Test.YtjlhjjjhblcokaaTa
import Derived.Test.YtjlhjjjhblcokaaTb
import Derived.Test.YtjlhjjjhblcokaaKb
import Derived.Test.YtjlhjjjhblcokaaBa
import Derived.Test.YtjlhjjjhblcokaaBb
import Derived.Test.YtjlhjjjhblcokaaBc
import Derived.Test.YtjlhjjjhblcokaaKp
import Derived.Test.YtjlhjjjhblcokaaUa
import Derived.Test.YtjlhjjjhblcokaaKv
import Derived.Test.YtjlhjjjhblcokaaXw
import Derived.Test.YtjlhjjjhblcokaaVa
import Derived.Test.YtjlhjjjhblcokaaVb
import Derived.Test.YtjlhjjjhblcokaaVc
import Derived.Test.YtjlhjjjhblcokaaVd
import Derived.Test.YtjlhjjjhblcokaaBg
import Derived.Test.YtjlhjjjhblcokaaBe
import Derived.Test.YtjlhjjjhblcokaaKx
namespace Go.XG
open Go.Proofs
set_option maxRecDepth 20000
set_option maxHeartbeats 4000000
theorem c16 {O : Outer} {H : Heap} {a : Option Addr} {c : Nat} {l : List (List Int)} (hx : RowsT H 99 5 a l) (hg : GooL l) (hl : l.length < 200000) (w i p : Int) :
    FnC Try.prog 16 #[.slice a l.length c, .int .i64 w, .int .i64 i, .int .i64 p] O H (fun v H' => ∃ a' c', v = .slice a' (hdS l w i p).length c' ∧ Stks H' a' (hdS l w i p) ∧ Ext H H') := by
  refine fn_enter (A := [.slice a l.length c, .int .i64 w, .int .i64 i, .int .i64 p]) Try.func16 rfl rfl ?_
  have hX := Ext.refl H
  refine xc_seq ?_
  refine xc_region ?_
  refine xl_pure rfl rfl rfl (pv_assign (v := .slice _ _ _) rfl rfl) ?_
  refine xl_nil ?_
  refine xthen_normal ?_
  refine xc_seq ?_
  refine xc_region ?_
  refine xl_pure rfl rfl rfl (pv_move (v := .int _ _) rfl rfl) ?_
  refine xl_pure rfl rfl rfl (pv_move (v := .int _ _) rfl rfl) ?_
  refine xl_heavy rfl rfl rfl (hv_call (g := 8) rfl rfl (c8 (w) (i)) rfl) ?_
  rintro v1_2 H1_2 ⟨hv1_2, rfl⟩
  rcases hv1_2 with ⟨ho1_2, rfl⟩ | ⟨ho1_2, rfl⟩
  · skip
    refine xl_pure rfl rfl rfl (pv_move (v := .tuple _) rfl rfl) ?_
    refine xl_pure rfl rfl rfl (pv_extract (v := .int _ _) rfl rfl rfl) ?_
    refine xl_pure rfl rfl rfl (pv_extract (v := .int _ _) rfl rfl rfl) ?_
    refine xl_pure rfl rfl rfl (pv_assign (v := .int _ _) rfl rfl) ?_
    refine xl_pure rfl rfl rfl (pv_assign (v := .int _ _) rfl rfl) ?_
    refine xl_nil ?_
    refine xthen_normal ?_
    refine xc_seq ?_
    refine xc_seq ?_
    refine xc_region ?_
    refine xl_pure rfl rfl rfl (pv_move (v := .int _ _) rfl rfl) ?_
    refine xl_ndec rfl rfl rfl (pv_neq rfl rfl rfl) (fun h2_1 => ?_) (fun h2_1 => ?_)
    · skip
      refine xl_nil ?_
      refine xthen_normal ?_
      refine xc_cond_f rfl ?_
      refine xc_skip ?_
      refine xthen_normal ?_
      refine xc_seq ?_
      refine xc_region ?_
      refine xl_pure rfl rfl rfl (pv_move (v := .slice _ _ _) rfl rfl) ?_
      refine xl_pure rfl rfl rfl (pv_move (v := .int _ _) rfl rfl) ?_
      refine xl_pure rfl rfl rfl (pv_move (v := .int _ _) rfl rfl) ?_
      refine xl_heavy rfl rfl rfl (hv_call (g := 54) rfl rfl (c54 (owN w i) 0 p) rfl) ?_
      rintro v4_3 H4_3 ⟨rfl, hE4_3⟩
      have hX := hX.trans hE4_3
      refine xl_heavy rfl rfl rfl (hv_call (g := 53) rfl rfl (c53 (hx.ext hX) hg (by omega) (owN w i) 0 p 1) rfl) ?_
      rintro v4_4 H4_4 ⟨a4_4, c4_4, rfl, hQ4_4, hE4_4⟩
      have hX := hX.trans hE4_4
      refine xl_pure rfl rfl rfl (pv_assign (v := .slice _ _ _) rfl rfl) ?_
      refine xl_nil ?_
      refine xthen_normal ?_
      refine xc_ret ?_
      refine fin_ret (res1 (v := .slice _ _ _) rfl rfl) ?_
      exact ⟨_, _, slv (by rw [hd_go ho1_2]), by rw [hd_go ho1_2]; exact hQ4_4, hX⟩
    · exact absurd (by decide) h2_1
  · skip
    refine xl_pure rfl rfl rfl (pv_move (v := .tuple _) rfl rfl) ?_
    refine xl_pure rfl rfl rfl (pv_extract (v := .int _ _) rfl rfl rfl) ?_
    refine xl_pure rfl rfl rfl (pv_extract (v := .int _ _) rfl rfl rfl) ?_
    refine xl_pure rfl rfl rfl (pv_assign (v := .int _ _) rfl rfl) ?_
    refine xl_pure rfl rfl rfl (pv_assign (v := .int _ _) rfl rfl) ?_
    refine xl_nil ?_
    refine xthen_normal ?_
    refine xc_seq ?_
    refine xc_seq ?_
    refine xc_region ?_
    refine xl_pure rfl rfl rfl (pv_move (v := .int _ _) rfl rfl) ?_
    refine xl_ndec rfl rfl rfl (pv_neq rfl rfl rfl) (fun h2_1 => ?_) (fun h2_1 => ?_)
    · exact absurd h2_1 (by decide)
    · skip
      refine xl_nil ?_
      refine xthen_normal ?_
      refine xc_cond_t rfl ?_
      refine xc_seq ?_
      refine xc_region ?_
      refine xl_pure rfl rfl rfl (pv_assign (v := .slice _ _ _) rfl rfl) ?_
      refine xl_nil ?_
      refine xthen_normal ?_
      refine xc_ret ?_
      refine xthen_ret ?_
      refine fin_ret (res1 (v := .slice _ _ _) rfl rfl) ?_
      exact ⟨none, 0, by rw [hd_no ho1_2]; rfl, by rw [hd_no ho1_2]; exact Stks.nil, hX⟩

theorem c59 {O : Outer} {H : Heap} {a : Option Addr} {c : Nat} {l : List (List Int)} (hx : RowsT H 99 5 a l) (hg : GooL l) (hl : l.length < 200000) (f0 f1 f2 f3 t0 t1 t2 t3 : Int) {sa : Option Addr} {sc : Nat} {s : List Stack} (hS : Stks H sa s) (hsl : s.length < 1099511627776) :
    FnC Try.prog 59 #[.slice a l.length c, .agg #[.int .i64 f0, .int .i64 f1, .int .i64 f2, .int .i64 f3], .agg #[.int .i64 t0, .int .i64 t1, .int .i64 t2, .int .i64 t3], .slice sa s.length sc] O H (fun v H' => ∃ a' c', v = .tuple #[.slice a' (moX l f0 f1 f2 t0 t1 t2 s).length c', .int .i64 (moE l f0 f1 f2 t0 t1 t2 s)] ∧ RowsT H' 99 5 a' (moX l f0 f1 f2 t0 t1 t2 s) ∧ Ext H H') := by
  refine fn_enter (A := [.slice a l.length c, .agg #[.int .i64 f0, .int .i64 f1, .int .i64 f2, .int .i64 f3], .agg #[.int .i64 t0, .int .i64 t1, .int .i64 t2, .int .i64 t3], .slice sa s.length sc]) Try.func59 rfl rfl ?_
  have hX := Ext.refl H
  refine xc_seq ?_
  refine xc_region ?_
  refine xl_heavy rfl rfl rfl (hv_box rfl rfl) ?_
  rintro v0_0 H0_0 ⟨b0_0, rfl, hN0_0⟩
  have gb0_0 := hX.fresh hN0_0
  have hX := hX.trans hN0_0.ext
  have m0_0 := hN0_0.blk
  refine xl_heavy rfl rfl rfl (hv_box rfl rfl) ?_
  rintro v0_1 H0_1 ⟨b0_1, rfl, hN0_1⟩
  have gb0_1 := hX.fresh hN0_1
  have nm0_0_0_1 := m0_0.apart hN0_1
  have m0_0 := m0_0.ext hN0_1.ext
  have hX := hX.trans hN0_1.ext
  have m0_1 := hN0_1.blk
  refine xl_pure rfl rfl rfl (pv_assign (v := .slice _ _ _) rfl rfl) ?_
  refine xl_pure rfl rfl rfl (pv_assign (v := .int _ _) rfl rfl) ?_
  refine xl_nil ?_
  refine xthen_normal ?_
  refine xc_seq ?_
  refine xc_region ?_
  refine xl_pure rfl rfl rfl (pv_move (v := .slice _ _ _) rfl rfl) ?_
  refine xl_light rfl rfl rfl (lv_load (v := .agg _) rfl rfl (ld_blk_a m0_0 rfl rfl)) ?_
  refine xl_pure rfl rfl rfl (pv_move (v := .slice _ _ _) rfl rfl) ?_
  refine xl_heavy rfl rfl rfl (hv_call (g := 63) rfl rfl (c63 (hx.ext hX) hg (by omega) f0 f1 f2 f3 (hS.ext hX) hsl) rfl) ?_
  rintro v1_3 H1_3 ⟨a1_3, c1_3, rfl, hQ1_3, hE1_3⟩
  have m0_0 := m0_0.ext hE1_3
  have m0_1 := m0_1.ext hE1_3
  have hX := hX.trans hE1_3
  refine xl_pure rfl rfl rfl (pv_move (v := .tuple _) rfl rfl) ?_
  refine xl_pure rfl rfl rfl (pv_extract (v := .slice _ _ _) rfl rfl rfl) ?_
  refine xl_pure rfl rfl rfl (pv_extract (v := .int _ _) rfl rfl rfl) ?_
  refine xl_pure rfl rfl rfl (pv_assign (v := .slice _ _ _) rfl rfl) ?_
  refine xl_pure rfl rfl rfl (pv_assign (v := .int _ _) rfl rfl) ?_
  refine xl_nil ?_
  refine xthen_normal ?_
  refine xc_seq ?_
  refine xc_seq ?_
  refine xc_region ?_
  refine xl_pure rfl rfl rfl (pv_move (v := .int _ _) rfl rfl) ?_
  refine xl_ndec rfl rfl rfl (pv_neq rfl rfl rfl) (fun h2_1 => ?_) (fun h2_1 => ?_)
  · skip
    refine xl_nil ?_
    refine xthen_normal ?_
    refine xc_cond_f rfl ?_
    refine xc_skip ?_
    refine xthen_normal ?_
    refine xc_seq ?_
    obtain ⟨hg1, hl1⟩ := goo_all (d := false) (k0 := f0) (k1 := f1) (k2 := f2) (s := s) hg
    obtain ⟨m1, m2⟩ := mo_go (t0 := t0) (t1 := t1) (t2 := t2) h2_1
    refine xc_region ?_
    refine xl_pure rfl rfl rfl (pv_move (v := .slice _ _ _) rfl rfl) ?_
    refine xl_light rfl rfl rfl (lv_load (v := .agg _) rfl rfl (ld_blk_a m0_1 rfl rfl)) ?_
    refine xl_pure rfl rfl rfl (pv_move (v := .slice _ _ _) rfl rfl) ?_
    refine xl_heavy rfl rfl rfl (hv_call (g := 86) rfl rfl (c86 hQ1_3 hg1 (by omega) t0 t1 t2 t3 (hS.ext hX) hsl) rfl) ?_
    rintro v4_3 H4_3 ⟨a4_3, c4_3, rfl, hQ4_3, hE4_3⟩
    have m0_0 := m0_0.ext hE4_3
    have m0_1 := m0_1.ext hE4_3
    have hQ1_3 := hQ1_3.ext hE4_3
    have hX := hX.trans hE4_3
    refine xl_pure rfl rfl rfl (pv_move (v := .tuple _) rfl rfl) ?_
    refine xl_pure rfl rfl rfl (pv_extract (v := .slice _ _ _) rfl rfl rfl) ?_
    refine xl_pure rfl rfl rfl (pv_extract (v := .int _ _) rfl rfl rfl) ?_
    refine xl_pure rfl rfl rfl (pv_assign (v := .slice _ _ _) rfl rfl) ?_
    refine xl_pure rfl rfl rfl (pv_assign (v := .int _ _) rfl rfl) ?_
    refine xl_nil ?_
    refine xthen_normal ?_
    refine xc_seq ?_
    refine xc_seq ?_
    refine xc_region ?_
    refine xl_pure rfl rfl rfl (pv_move (v := .int _ _) rfl rfl) ?_
    refine xl_ndec rfl rfl rfl (pv_neq rfl rfl rfl) (fun h5_1 => ?_) (fun h5_1 => ?_)
    · skip
      refine xl_nil ?_
      refine xthen_normal ?_
      refine xc_cond_f rfl ?_
      refine xc_skip ?_
      refine xthen_normal ?_
      refine xc_seq ?_
      refine xc_region ?_
      refine xl_pure rfl rfl rfl (pv_move (v := .slice _ _ _) rfl rfl) ?_
      refine xl_pure rfl rfl rfl (pv_assign (v := .slice _ _ _) rfl rfl) ?_
      refine xl_pure rfl rfl rfl (pv_assign (v := .int _ _) rfl rfl) ?_
      refine xl_nil ?_
      refine xthen_normal ?_
      refine xc_ret ?_
      refine fin_ret (res2 (v := .slice _ _ _) (x := .int _ _) rfl rfl rfl) ?_
      have e0 : moE l f0 f1 f2 t0 t1 t2 s = 0 := by rw [m1]; exact h5_1
      have e2 := (mo_ok e0).trans m2
      exact ⟨_, _, by rw [e0, e2], by rw [e2]; exact hQ4_3, hX⟩
    · skip
      refine xl_nil ?_
      refine xthen_normal ?_
      refine xc_cond_t rfl ?_
      refine xc_seq ?_
      refine xc_region ?_
      refine xl_pure rfl rfl rfl (pv_move (v := .slice _ _ _) rfl rfl) ?_
      refine xl_pure rfl rfl rfl (pv_move (v := .int _ _) rfl rfl) ?_
      refine xl_pure rfl rfl rfl (pv_assign (v := .slice _ _ _) rfl rfl) ?_
      refine xl_pure rfl rfl rfl (pv_assign (v := .int _ _) rfl rfl) ?_
      refine xl_nil ?_
      refine xthen_normal ?_
      refine xc_ret ?_
      refine xthen_ret ?_
      refine fin_ret (res2 (v := .slice _ _ _) (x := .int _ _) rfl rfl rfl) ?_
      have e1 := m1
      have e2 := mo_bad (l := l) (f0 := f0) (f1 := f1) (f2 := f2) (t0 := t0) (t1 := t1) (t2 := t2) (s := s) (by rw [m1]; exact h5_1)
      exact ⟨a, c, by rw [e1, e2], by rw [e2]; exact hx.ext hX, hX⟩
  · skip
    refine xl_nil ?_
    refine xthen_normal ?_
    refine xc_cond_t rfl ?_
    refine xc_seq ?_
    refine xc_region ?_
    refine xl_pure rfl rfl rfl (pv_move (v := .slice _ _ _) rfl rfl) ?_
    refine xl_pure rfl rfl rfl (pv_move (v := .int _ _) rfl rfl) ?_
    refine xl_pure rfl rfl rfl (pv_assign (v := .slice _ _ _) rfl rfl) ?_
    refine xl_pure rfl rfl rfl (pv_assign (v := .int _ _) rfl rfl) ?_
    refine xl_nil ?_
    refine xthen_normal ?_
    refine xc_ret ?_
    refine xthen_ret ?_
    refine fin_ret (res2 (v := .slice _ _ _) (x := .int _ _) rfl rfl rfl) ?_
    obtain ⟨e1, _, e2⟩ := mo_no (t0 := t0) (t1 := t1) (t2 := t2) h2_1
    exact ⟨a, c, by rw [e1, e2], by rw [e2]; exact hx.ext hX, hX⟩

theorem c18 {O : Outer} {H : Heap} {a : Option Addr} {c : Nat} {l : List (List Int)} (hx : RowsT H 99 5 a l) (hg : GooL l) (hl : l.length < 200000) (f0 f1 f2 f3 w i : Int) {sa : Option Addr} {sc : Nat} {s : List Stack} (hS : Stks H sa s) (hsl : s.length < 1099511627776) :
    FnC Try.prog 18 #[.slice a l.length c, .agg #[.int .i64 f0, .int .i64 f1, .int .i64 f2, .int .i64 f3], .int .i64 w, .int .i64 i, .slice sa s.length sc] O H (fun v H' => ∃ a' c', v = .tuple #[.slice a' (lkX l f0 f1 f2 w i s).length c', .int .i64 (lkE l f0 f1 f2 w i s)] ∧ RowsT H' 99 5 a' (lkX l f0 f1 f2 w i s) ∧ Ext H H') := by
  refine fn_enter (A := [.slice a l.length c, .agg #[.int .i64 f0, .int .i64 f1, .int .i64 f2, .int .i64 f3], .int .i64 w, .int .i64 i, .slice sa s.length sc]) Try.func18 rfl rfl ?_
  have hX := Ext.refl H
  refine xc_seq ?_
  refine xc_region ?_
  refine xl_heavy rfl rfl rfl (hv_box rfl rfl) ?_
  rintro v0_0 H0_0 ⟨b0_0, rfl, hN0_0⟩
  have gb0_0 := hX.fresh hN0_0
  have hX := hX.trans hN0_0.ext
  have m0_0 := hN0_0.blk
  refine xl_pure rfl rfl rfl (pv_assign (v := .slice _ _ _) rfl rfl) ?_
  refine xl_pure rfl rfl rfl (pv_assign (v := .int _ _) rfl rfl) ?_
  refine xl_nil ?_
  refine xthen_normal ?_
  refine xc_seq ?_
  refine xc_region ?_
  refine xl_pure rfl rfl rfl (pv_move (v := .int _ _) rfl rfl) ?_
  refine xl_pure rfl rfl rfl (pv_move (v := .int _ _) rfl rfl) ?_
  refine xl_heavy rfl rfl rfl (hv_call (g := 8) rfl rfl (c8 (w) (i)) rfl) ?_
  rintro v1_2 H1_2 ⟨hv1_2, rfl⟩
  rcases hv1_2 with ⟨ho1_2, rfl⟩ | ⟨ho1_2, rfl⟩
  · skip
    refine xl_pure rfl rfl rfl (pv_move (v := .tuple _) rfl rfl) ?_
    refine xl_pure rfl rfl rfl (pv_extract (v := .int _ _) rfl rfl rfl) ?_
    refine xl_pure rfl rfl rfl (pv_extract (v := .int _ _) rfl rfl rfl) ?_
    refine xl_pure rfl rfl rfl (pv_assign (v := .int _ _) rfl rfl) ?_
    refine xl_pure rfl rfl rfl (pv_assign (v := .int _ _) rfl rfl) ?_
    refine xl_nil ?_
    refine xthen_normal ?_
    refine xc_seq ?_
    refine xc_seq ?_
    refine xc_region ?_
    refine xl_pure rfl rfl rfl (pv_move (v := .int _ _) rfl rfl) ?_
    refine xl_ndec rfl rfl rfl (pv_neq rfl rfl rfl) (fun h2_1 => ?_) (fun h2_1 => ?_)
    · skip
      refine xl_nil ?_
      refine xthen_normal ?_
      refine xc_cond_f rfl ?_
      refine xc_skip ?_
      refine xthen_normal ?_
      refine xc_seq ?_
      refine xp_start rfl (by repeat (first | with_reducible exact np_fin | with_reducible exact np_ret | with_reducible refine np_then ?_ | with_reducible refine np_block ?_)) (by kernel_rfl) ?_
      refine xp_pure (i := 0) rfl (by kernel_rfl) (by kernel_rfl) rfl rfl rfl (pv_move (v := .slice _ _ _) rfl rfl) ?_
      refine xp_light (i := 1) rfl (by kernel_rfl) (by kernel_rfl) rfl rfl rfl (lv_load (v := .agg _) rfl rfl (ld_blk_a m0_0 rfl rfl)) ?_
      refine xp_pure (i := 2) rfl (by kernel_rfl) (by kernel_rfl) rfl rfl rfl (pv_move (v := .int _ _) rfl rfl) ?_
      refine xp_pure (i := 3) rfl (by kernel_rfl) (by kernel_rfl) rfl rfl rfl (pv_fieldAddr rfl rfl) ?_
      refine xp_light (i := 4) rfl (by kernel_rfl) (by kernel_rfl) rfl rfl rfl (lv_load (v := .int _ _) rfl rfl (ld_blk m0_0 rfl)) ?_
      refine xp_pure (i := 6) rfl (by kernel_rfl) (by kernel_rfl) rfl rfl rfl (pv_move (v := .slice _ _ _) rfl rfl) ?_
      refine xp_heavy (i := 5) (by kernel_rfl) ?_
      refine xph_val rfl rfl rfl rfl (hv_call (g := 54) rfl rfl (c54 (owN w i) 0 f2) rfl) (pd (by kernel_rfl) (pk (by kernel_rfl) pn)) ?_
      rintro v4_5 H4_5 ⟨rfl, hE4_5⟩
      have m0_0 := m0_0.ext hE4_5
      have hX := hX.trans hE4_5
      refine ⟨(okc (lv_load (v := .agg _) rfl rfl (ld_blk_a m0_0 rfl rfl)) okn), ?_⟩
      refine xp_heavy (i := 7) (by kernel_rfl) ?_
      refine xph_val rfl rfl rfl rfl (hv_call (g := 59) rfl rfl (c59 (hx.ext hX) hg hl f0 f1 f2 f3 (owN w i) 0 f2 1 (hS.ext hX) hsl) rfl) (pd (by kernel_rfl) pn) ?_
      rintro v4_7 H4_7 ⟨a4_7, c4_7, rfl, hQ4_7, hE4_7⟩
      have m0_0 := m0_0.ext hE4_7
      have hX := hX.trans hE4_7
      refine ⟨okn, ?_⟩
      refine xp_pure (i := 8) rfl (by kernel_rfl) (by kernel_rfl) rfl rfl rfl (pv_extract (v := .slice _ _ _) rfl rfl rfl) ?_
      refine xp_pure (i := 9) rfl (by kernel_rfl) (by kernel_rfl) rfl rfl rfl (pv_extract (v := .int _ _) rfl rfl rfl) ?_
      refine xp_pure (i := 10) rfl (by kernel_rfl) (by kernel_rfl) rfl rfl rfl (pv_assign (v := .slice _ _ _) rfl rfl) ?_
      refine xp_pure (i := 11) rfl (by kernel_rfl) (by kernel_rfl) rfl rfl rfl (pv_assign (v := .int _ _) rfl rfl) ?_
      refine xp_done (by kernel_rfl) ?_
      refine xthen_normal ?_
      refine xc_ret ?_
      refine fin_ret (res2 (v := .slice _ _ _) (x := .int _ _) rfl rfl rfl) ?_
      obtain ⟨e1, e2⟩ := lk_go (l := l) (f0 := f0) (f1 := f1) (f2 := f2) (s := s) ho1_2
      exact ⟨_, _, by rw [e1, e2], by rw [e2]; exact hQ4_7, hX⟩
    · exact absurd (by decide) h2_1
  · skip
    refine xl_pure rfl rfl rfl (pv_move (v := .tuple _) rfl rfl) ?_
    refine xl_pure rfl rfl rfl (pv_extract (v := .int _ _) rfl rfl rfl) ?_
    refine xl_pure rfl rfl rfl (pv_extract (v := .int _ _) rfl rfl rfl) ?_
    refine xl_pure rfl rfl rfl (pv_assign (v := .int _ _) rfl rfl) ?_
    refine xl_pure rfl rfl rfl (pv_assign (v := .int _ _) rfl rfl) ?_
    refine xl_nil ?_
    refine xthen_normal ?_
    refine xc_seq ?_
    refine xc_seq ?_
    refine xc_region ?_
    refine xl_pure rfl rfl rfl (pv_move (v := .int _ _) rfl rfl) ?_
    refine xl_ndec rfl rfl rfl (pv_neq rfl rfl rfl) (fun h2_1 => ?_) (fun h2_1 => ?_)
    · exact absurd h2_1 (by decide)
    · skip
      refine xl_nil ?_
      refine xthen_normal ?_
      refine xc_cond_t rfl ?_
      refine xc_seq ?_
      refine xc_region ?_
      refine xl_pure rfl rfl rfl (pv_move (v := .slice _ _ _) rfl rfl) ?_
      refine xl_pure rfl rfl rfl (pv_move (v := .int _ _) rfl rfl) ?_
      refine xl_pure rfl rfl rfl (pv_assign (v := .slice _ _ _) rfl rfl) ?_
      refine xl_pure rfl rfl rfl (pv_assign (v := .int _ _) rfl rfl) ?_
      refine xl_nil ?_
      refine xthen_normal ?_
      refine xc_ret ?_
      refine xthen_ret ?_
      refine fin_ret (res2 (v := .slice _ _ _) (x := .int _ _) rfl rfl rfl) ?_
      obtain ⟨e1, e2⟩ := lk_no (l := l) (f0 := f0) (f1 := f1) (f2 := f2) (s := s) ho1_2
      exact ⟨a, c, by rw [e1, e2], by rw [e2]; exact hx.ext hX, hX⟩

theorem c22 {O : Outer} {H : Heap} {a : Option Addr} {c : Nat} {l : List (List Int)} (hx : RowsT H 99 5 a l) (hg : GooL l) (hl : l.length < 200000) (w i p : Int) :
    FnC Try.prog 22 #[.slice a l.length c, .int .i64 w, .int .i64 i, .int .i64 p] O H (fun v H' => ∃ a' c' sa' sc', v = .tuple #[.slice a' (coX l w i p).length c', .slice sa' (coS l w i p).length sc', .int .i64 (coE w i p)] ∧ RowsT H' 99 5 a' (coX l w i p) ∧ Stks H' sa' (coS l w i p) ∧ Ext H H') := by
  have hSl := ofS_len (l := l) (k0 := owN w i) (k1 := 0) (k2 := p)
  refine fn_enter (A := [.slice a l.length c, .int .i64 w, .int .i64 i, .int .i64 p]) Try.func22 rfl rfl ?_
  have hX := Ext.refl H
  refine xc_seq ?_
  refine xc_region ?_
  refine xl_pure rfl rfl rfl (pv_assign (v := .slice _ _ _) rfl rfl) ?_
  refine xl_pure rfl rfl rfl (pv_assign (v := .slice _ _ _) rfl rfl) ?_
  refine xl_pure rfl rfl rfl (pv_assign (v := .int _ _) rfl rfl) ?_
  refine xl_nil ?_
  refine xthen_normal ?_
  refine xc_seq ?_
  refine xc_region ?_
  refine xl_pure rfl rfl rfl (pv_move (v := .int _ _) rfl rfl) ?_
  refine xl_pure rfl rfl rfl (pv_move (v := .int _ _) rfl rfl) ?_
  refine xl_heavy rfl rfl rfl (hv_call (g := 8) rfl rfl (c8 (w) (i)) rfl) ?_
  rintro v1_2 H1_2 ⟨hv1_2, rfl⟩
  rcases hv1_2 with ⟨ho1_2, rfl⟩ | ⟨ho1_2, rfl⟩
  · skip
    refine xl_pure rfl rfl rfl (pv_move (v := .tuple _) rfl rfl) ?_
    refine xl_pure rfl rfl rfl (pv_extract (v := .int _ _) rfl rfl rfl) ?_
    refine xl_pure rfl rfl rfl (pv_extract (v := .int _ _) rfl rfl rfl) ?_
    refine xl_pure rfl rfl rfl (pv_assign (v := .int _ _) rfl rfl) ?_
    refine xl_pure rfl rfl rfl (pv_assign (v := .int _ _) rfl rfl) ?_
    refine xl_nil ?_
    refine xthen_normal ?_
    refine xc_seq ?_
    refine xc_seq ?_
    refine xc_region ?_
    refine xl_pure rfl rfl rfl (pv_move (v := .int _ _) rfl rfl) ?_
    refine xl_ndec rfl rfl rfl (pv_neq rfl rfl rfl) (fun h2_1 => ?_) (fun h2_1 => ?_)
    · skip
      refine xl_nil ?_
      refine xthen_normal ?_
      refine xc_cond_f rfl ?_
      refine xc_skip ?_
      refine xthen_normal ?_
      refine xc_seq ?_
      refine xc_seq ?_
      refine xc_region ?_
      refine xl_pure rfl rfl rfl (pv_move (v := .int _ _) rfl rfl) ?_
      refine xl_pure rfl rfl rfl (pv_move (v := .int _ _) rfl rfl) ?_
      refine xl_heavy rfl rfl rfl (hv_call (g := 54) rfl rfl (c54 (owN w i) 0 p) rfl) ?_
      rintro v4_2 H4_2 ⟨rfl, hE4_2⟩
      have hX := hX.trans hE4_2
      refine xl_heavy rfl rfl rfl (hv_call (g := 48) rfl rfl (c48 (owN w i) 0 p 1) rfl) ?_
      rintro v4_3 H4_3 ⟨hv4_3, hE4_3⟩
      have hX := hX.trans hE4_3
      rcases hv4_3 with ⟨hi4_3, rfl⟩ | ⟨hi4_3, rfl⟩
      · skip
        refine xl_pure rfl rfl rfl (pv_not rfl rfl) ?_
        refine xl_nil ?_
        refine xthen_normal ?_
        refine xc_cond_f rfl ?_
        refine xc_skip ?_
        refine xthen_normal ?_
        refine xc_seq ?_
        have hp8 := (isB_own ho1_2).1 hi4_3
        have htk := co_tak hg ho1_2 hp8
        refine xc_region ?_
        refine xl_pure rfl rfl rfl (pv_move (v := .slice _ _ _) rfl rfl) ?_
        refine xl_pure rfl rfl rfl (pv_assign (v := .slice _ _ _) rfl rfl) ?_
        refine xl_nil ?_
        refine xthen_normal ?_
        refine xc_seq ?_
        refine xc_region ?_
        refine xl_pure rfl rfl rfl (pv_move (v := .slice _ _ _) rfl rfl) ?_
        refine xl_pure rfl rfl rfl (pv_move (v := .int _ _) rfl rfl) ?_
        refine xl_pure rfl rfl rfl (pv_move (v := .int _ _) rfl rfl) ?_
        refine xl_pure rfl rfl rfl (pv_move (v := .int _ _) rfl rfl) ?_
        refine xl_heavy rfl rfl rfl (hv_call (g := 16) rfl rfl (c16 (hx.ext hX) hg (by omega) w i p) rfl) ?_
        rintro v7_4 H7_4 ⟨a7_4, c7_4, hv7_4, hS7_4, hE7_4⟩
        have hX := hX.trans hE7_4
        rw [hd_go ho1_2] at hv7_4 hS7_4
        subst hv7_4
        refine xl_pure rfl rfl rfl (pv_assign (v := .slice _ _ _) rfl rfl) ?_
        refine xl_nil ?_
        refine xthen_normal ?_
        refine xc_seq ?_
        refine xc_seq ?_
        refine xc_region ?_
        refine xl_pure rfl rfl rfl (pv_assign (v := .int _ _) rfl rfl) ?_
        refine xl_nil ?_
        refine xthen_normal ?_
        refine xc_block ?_
        refine xc_loop (τ := Nat × Option Addr × Nat) (fun t => [(0, .slice a l.length c), (3, .int .i64 p), (11, .int .i64 (owN w i)), (13, .slice t.2.1 (runX false (owN w i) 0 p l ((ofS l (owN w i) 0 p).take t.1)).length t.2.2), (14, .slice a7_4 (ofS l (owN w i) 0 p).length c7_4), (15, .int .i64 (t.1 : Nat))]) (fun t H' => (t.1 ≤ (ofS l (owN w i) 0 p).length) ∧ (RowsT H' 99 5 t.2.1 (runX false (owN w i) 0 p l ((ofS l (owN w i) 0 p).take t.1))) ∧ (Stks H' a7_4 (ofS l (owN w i) 0 p)) ∧ (Ext H H')) (fun t H' => (ofS l (owN w i) 0 p).length - t.1) (0, a, c) ?_ ?_ ?_
        · exact ⟨rfl, rfl, rfl, rfl, rfl, rfl, trivial⟩
        · skip
          exact ⟨Nat.zero_le _, hx.ext hX, hS7_4, hX⟩
        · intro σ
          clear hX hS7_4
          rintro ⟨j, a1, c1⟩ Hl9 ⟨hj, hQ, hS7_4, hX⟩
          replace hj : j ≤ (ofS l (owN w i) 0 p).length := hj
          replace hQ : RowsT Hl9 99 5 a1 (runX false (owN w i) 0 p l ((ofS l (owN w i) 0 p).take j)) := hQ
          replace hS7_4 : Stks Hl9 a7_4 (ofS l (owN w i) 0 p) := hS7_4
          replace hX : Ext H Hl9 := hX
          obtain ⟨sb, so, hse⟩ := hS7_4.at'
          obtain ⟨hgy, hly⟩ := goo_runs (d := false) (k0 := owN w i) (k1 := 0) (k2 := p) hg hj
          show XC _ _ _ (upds σ [(0, .slice a l.length c), (3, .int .i64 p), (11, .int .i64 (owN w i)), (13, .slice a1 (runX false (owN w i) 0 p l ((ofS l (owN w i) 0 p).take j)).length c1), (14, .slice a7_4 (ofS l (owN w i) 0 p).length c7_4), (15, .int .i64 (j : Nat))]) _
          refine xc_seq ?_
          refine xc_seq ?_
          refine xc_region ?_
          refine xl_pure rfl rfl rfl (pv_move (v := .int _ _) rfl rfl) ?_
          refine xl_pure rfl rfl rfl (pv_move (v := .slice _ _ _) rfl rfl) ?_
          refine xl_pure rfl rfl rfl (pv_len_l rfl rfl) ?_
          refine xl_dec rfl rfl rfl (pv_lss rfl rfl rfl) (fun h9_3 => ?_) (fun h9_3 => ?_)
          · skip
            refine xl_nil ?_
            refine xthen_normal ?_
            refine xc_cond_t rfl ?_
            refine xc_skip ?_
            refine xthen_normal ?_
            refine xc_seq ?_
            refine xc_block ?_
            refine xc_seq ?_
            have hone := all_one (d := false) (y := (runX false (owN w i) 0 p l ((ofS l (owN w i) 0 p).take j))) (x := (gx (ofS l (owN w i) 0 p) j, gq (ofS l (owN w i) 0 p) j)) ((isB_own ho1_2).2 hp8) (fine_at (ofS_fine hg) (show j < (ofS l (owN w i) 0 p).length by omega)) (run_runE htk j (by omega))
            refine xp_start rfl (by repeat (first | with_reducible exact np_fin | with_reducible exact np_ret | with_reducible refine np_then ?_ | with_reducible refine np_block ?_)) (by kernel_rfl) ?_
            refine xp_pure (i := 0) rfl (by kernel_rfl) (by kernel_rfl) rfl rfl rfl (pv_move (v := .slice _ _ _) rfl rfl) ?_
            refine xp_pure (i := 1) rfl (by kernel_rfl) (by kernel_rfl) rfl rfl rfl (pv_move (v := .int _ _) rfl rfl) ?_
            refine xp_pure (i := 2) rfl (by kernel_rfl) (by kernel_rfl) rfl rfl rfl (pv_move (v := .int _ _) rfl rfl) ?_
            refine xp_pure (i := 4) rfl (by kernel_rfl) (by kernel_rfl) rfl rfl rfl (pv_move (v := .slice _ _ _) rfl rfl) ?_
            refine xp_pure (i := 5) rfl (by kernel_rfl) (by kernel_rfl) rfl rfl rfl (pv_move (v := .int _ _) rfl rfl) ?_
            refine xp_pure (i := 6) rfl (by kernel_rfl) (by kernel_rfl) rfl rfl rfl (pv_indexAddr_l rfl (sl_eq (hse (by omega)).1) rfl (by omega)) ?_
            refine xp_light (i := 7) rfl (by kernel_rfl) (by kernel_rfl) rfl rfl rfl (lv_load (v := .agg _) rfl rfl (by exact ld_stks hS7_4 (hse (by omega)).1 (by omega))) ?_
            refine xp_heavy2 (i := 3) (j := 8) (by kernel_rfl) ?_ ?_
            · skip
              refine xph_val rfl rfl rfl rfl (hv_call (g := 54) rfl rfl (c54 (owN w i) 0 p) rfl) (pk (by kernel_rfl) pn) ?_
              rintro v11_3 H11_3 ⟨rfl, hE11_3⟩
              have hS7_4 := hS7_4.ext hE11_3
              have hQ := hQ.ext hE11_3
              have hX := hX.trans hE11_3
              refine ⟨(okc (lv_load (v := .agg _) rfl rfl (by exact ld_stks hS7_4 (hse (by omega)).1 (by omega))) okn), ?_⟩
              refine xp_heavy (i := 8) (by kernel_rfl) ?_
              refine xph_val rfl rfl rfl rfl (hv_buildSlice (cs := [.int _ _, .int _ _]) rfl rfl rfl rfl rfl) (pd (by kernel_rfl) pn) ?_
              rintro v11_8 H11_8 ⟨b11_8, rfl, hN11_8⟩
              have gb11_8 := hX.fresh hN11_8
              have hS7_4 := hS7_4.ext hN11_8.ext
              have hQ := hQ.ext hN11_8.ext
              have hX := hX.trans hN11_8.ext
              have m11_8 := hN11_8.blk
              refine ⟨okn, ?_⟩
              refine xp_heavy (i := 9) (by kernel_rfl) ?_
              refine xph_val rfl rfl rfl rfl (hv_call (g := 63) rfl rfl (c63 (l := (runX false (owN w i) 0 p l ((ofS l (owN w i) 0 p).take j))) hQ hgy (by omega) (owN w i) 0 p 1 (s := [(gx (ofS l (owN w i) 0 p) j, gq (ofS l (owN w i) 0 p) j)]) (stks_blk (l := [(gx (ofS l (owN w i) 0 p) j, gq (ofS l (owN w i) 0 p) j)]) m11_8) (by simp)) rfl) pn ?_
              rintro v11_9 H11_9 ⟨a11_9, c11_9, hv11_9, hQ11_9, hE11_9⟩
              have hS7_4 := hS7_4.ext hE11_9
              have hQ := hQ.ext hE11_9
              have m11_8 := m11_8.ext hE11_9
              have hX := hX.trans hE11_9
              rw [hone.1, hone.2] at hv11_9
              rw [hone.2] at hQ11_9
              subst hv11_9
              refine ⟨okn, ?_⟩
              refine xp_pure (i := 10) rfl (by kernel_rfl) (by kernel_rfl) rfl rfl rfl (pv_move (v := .tuple _) rfl rfl) ?_
              refine xp_pure (i := 11) rfl (by kernel_rfl) (by kernel_rfl) rfl rfl rfl (pv_extract (v := .slice _ _ _) rfl rfl rfl) ?_
              refine xp_pure (i := 12) rfl (by kernel_rfl) (by kernel_rfl) rfl rfl rfl (pv_extract (v := .int _ _) rfl rfl rfl) ?_
              refine xp_pure (i := 13) rfl (by kernel_rfl) (by kernel_rfl) rfl rfl rfl (pv_assign (v := .slice _ _ _) rfl rfl) ?_
              refine xp_pure (i := 14) rfl (by kernel_rfl) (by kernel_rfl) rfl rfl rfl (pv_assign (v := .int _ _) rfl rfl) ?_
              refine xp_done (by kernel_rfl) ?_
              refine xthen_normal ?_
              refine xc_seq ?_
              refine xc_seq ?_
              refine xc_region ?_
              refine xl_pure rfl rfl rfl (pv_move (v := .int _ _) rfl rfl) ?_
              refine xl_ndec rfl rfl rfl (pv_neq rfl rfl rfl) (fun h12_1 => ?_) (fun h12_1 => ?_)
              · skip
                refine xl_nil ?_
                refine xthen_normal ?_
                refine xc_cond_f rfl ?_
                refine xc_skip ?_
                refine xthen_normal ?_
                refine xc_region ?_
                refine xl_pure rfl rfl rfl (pv_move (v := .slice _ _ _) rfl rfl) ?_
                refine xl_pure rfl rfl rfl (pv_assign (v := .slice _ _ _) rfl rfl) ?_
                refine xl_nil ?_
                refine xblock_normal ?_
                refine xthen_normal ?_
                refine xc_region ?_
                refine xl_pure rfl rfl rfl (pv_move (v := .int _ _) rfl rfl) ?_
                refine xl_pure rfl rfl rfl (pv_add rfl rfl rfl (fit_i64 (by omega))) ?_
                refine xl_pure rfl rfl rfl (pv_assign (v := .int _ _) rfl rfl) ?_
                refine xl_nil ?_
                refine xthen_normal ?_
                exact ⟨(j + 1, _, _), ⟨rfl, rfl, rfl, slv (by rw [run_take (by omega)]), rfl, rfl, trivial⟩, ⟨by (try simp only); omega, by rw [run_take (by omega)]; exact hQ11_9, hS7_4, hX⟩, by (try simp only); omega⟩
              · exact absurd (by decide) h12_1
            · skip
              refine xph_val rfl rfl rfl rfl (hv_buildSlice (cs := [.int _ _, .int _ _]) rfl rfl rfl rfl rfl) (pd (by kernel_rfl) pn) ?_
              rintro v11_8 H11_8 ⟨b11_8, rfl, hN11_8⟩
              have gb11_8 := hX.fresh hN11_8
              have hS7_4 := hS7_4.ext hN11_8.ext
              have hQ := hQ.ext hN11_8.ext
              have hX := hX.trans hN11_8.ext
              have m11_8 := hN11_8.blk
              refine ⟨okn, ?_⟩
              refine xp_heavy (i := 3) (by kernel_rfl) ?_
              refine xph_val rfl rfl rfl rfl (hv_call (g := 54) rfl rfl (c54 (owN w i) 0 p) rfl) pn ?_
              rintro v11_3 H11_3 ⟨rfl, hE11_3⟩
              have hS7_4 := hS7_4.ext hE11_3
              have hQ := hQ.ext hE11_3
              have m11_8 := m11_8.ext hE11_3
              have hX := hX.trans hE11_3
              refine ⟨okn, ?_⟩
              refine xp_heavy (i := 9) (by kernel_rfl) ?_
              refine xph_val rfl rfl rfl rfl (hv_call (g := 63) rfl rfl (c63 (l := (runX false (owN w i) 0 p l ((ofS l (owN w i) 0 p).take j))) hQ hgy (by omega) (owN w i) 0 p 1 (s := [(gx (ofS l (owN w i) 0 p) j, gq (ofS l (owN w i) 0 p) j)]) (stks_blk (l := [(gx (ofS l (owN w i) 0 p) j, gq (ofS l (owN w i) 0 p) j)]) m11_8) (by simp)) rfl) pn ?_
              rintro v11_9 H11_9 ⟨a11_9, c11_9, hv11_9, hQ11_9, hE11_9⟩
              have hS7_4 := hS7_4.ext hE11_9
              have hQ := hQ.ext hE11_9
              have m11_8 := m11_8.ext hE11_9
              have hX := hX.trans hE11_9
              rw [hone.1, hone.2] at hv11_9
              rw [hone.2] at hQ11_9
              subst hv11_9
              refine ⟨okn, ?_⟩
              refine xp_pure (i := 10) rfl (by kernel_rfl) (by kernel_rfl) rfl rfl rfl (pv_move (v := .tuple _) rfl rfl) ?_
              refine xp_pure (i := 11) rfl (by kernel_rfl) (by kernel_rfl) rfl rfl rfl (pv_extract (v := .slice _ _ _) rfl rfl rfl) ?_
              refine xp_pure (i := 12) rfl (by kernel_rfl) (by kernel_rfl) rfl rfl rfl (pv_extract (v := .int _ _) rfl rfl rfl) ?_
              refine xp_pure (i := 13) rfl (by kernel_rfl) (by kernel_rfl) rfl rfl rfl (pv_assign (v := .slice _ _ _) rfl rfl) ?_
              refine xp_pure (i := 14) rfl (by kernel_rfl) (by kernel_rfl) rfl rfl rfl (pv_assign (v := .int _ _) rfl rfl) ?_
              refine xp_done (by kernel_rfl) ?_
              refine xthen_normal ?_
              refine xc_seq ?_
              refine xc_seq ?_
              refine xc_region ?_
              refine xl_pure rfl rfl rfl (pv_move (v := .int _ _) rfl rfl) ?_
              refine xl_ndec rfl rfl rfl (pv_neq rfl rfl rfl) (fun h12_1 => ?_) (fun h12_1 => ?_)
              · skip
                refine xl_nil ?_
                refine xthen_normal ?_
                refine xc_cond_f rfl ?_
                refine xc_skip ?_
                refine xthen_normal ?_
                refine xc_region ?_
                refine xl_pure rfl rfl rfl (pv_move (v := .slice _ _ _) rfl rfl) ?_
                refine xl_pure rfl rfl rfl (pv_assign (v := .slice _ _ _) rfl rfl) ?_
                refine xl_nil ?_
                refine xblock_normal ?_
                refine xthen_normal ?_
                refine xc_region ?_
                refine xl_pure rfl rfl rfl (pv_move (v := .int _ _) rfl rfl) ?_
                refine xl_pure rfl rfl rfl (pv_add rfl rfl rfl (fit_i64 (by omega))) ?_
                refine xl_pure rfl rfl rfl (pv_assign (v := .int _ _) rfl rfl) ?_
                refine xl_nil ?_
                refine xthen_normal ?_
                exact ⟨(j + 1, _, _), ⟨rfl, rfl, rfl, slv (by rw [run_take (by omega)]), rfl, rfl, trivial⟩, ⟨by (try simp only); omega, by rw [run_take (by omega)]; exact hQ11_9, hS7_4, hX⟩, by (try simp only); omega⟩
              · exact absurd (by decide) h12_1
          · skip
            refine xl_nil ?_
            refine xthen_normal ?_
            refine xc_cond_f rfl ?_
            refine xc_exit ?_
            refine xthen_exit ?_
            refine xthen_exit ?_
            refine xblock_same ?_
            refine xthen_normal ?_
            refine xc_seq ?_
            refine xc_region ?_
            refine xl_pure rfl rfl rfl (pv_move (v := .slice _ _ _) rfl rfl) ?_
            refine xl_pure rfl rfl rfl (pv_move (v := .slice _ _ _) rfl rfl) ?_
            refine xl_pure rfl rfl rfl (pv_assign (v := .slice _ _ _) rfl rfl) ?_
            refine xl_pure rfl rfl rfl (pv_assign (v := .slice _ _ _) rfl rfl) ?_
            refine xl_pure rfl rfl rfl (pv_assign (v := .int _ _) rfl rfl) ?_
            refine xl_nil ?_
            refine xthen_normal ?_
            refine xc_ret ?_
            refine fin_ret (res3 (v := .slice _ _ _) (x := .slice _ _ _) (y := .int _ _) rfl rfl rfl rfl) ?_
            obtain rfl : j = (ofS l (owN w i) 0 p).length := by omega
            obtain ⟨e1, e2, e3⟩ := co_go (l := l) (w := w) (i := i) (p := p) ⟨ho1_2, hp8⟩
            rw [List.take_length] at hQ
            exact ⟨a1, c1, a7_4, c7_4, by rw [e1, e2, e3, List.take_length], by rw [e3]; exact hQ, by rw [e2]; exact hS7_4, hX⟩
      · skip
        refine xl_pure rfl rfl rfl (pv_not rfl rfl) ?_
        refine xl_nil ?_
        refine xthen_normal ?_
        refine xc_cond_t rfl ?_
        refine xc_seq ?_
        refine xc_region ?_
        refine xl_pure rfl rfl rfl (pv_move (v := .slice _ _ _) rfl rfl) ?_
        refine xl_pure rfl rfl rfl (pv_assign (v := .slice _ _ _) rfl rfl) ?_
        refine xl_pure rfl rfl rfl (pv_assign (v := .slice _ _ _) rfl rfl) ?_
        refine xl_pure rfl rfl rfl (pv_assign (v := .int _ _) rfl rfl) ?_
        refine xl_nil ?_
        refine xthen_normal ?_
        refine xc_ret ?_
        refine xthen_ret ?_
        refine fin_ret (res3 (v := .slice _ _ _) (x := .slice _ _ _) (y := .int _ _) rfl rfl rfl rfl) ?_
        obtain ⟨e1, e2, e3⟩ := co_no (l := l) (w := w) (i := i) (p := p) (fun h => hi4_3 ((isB_own ho1_2).2 h.2))
        exact ⟨a, c, none, 0, by rw [e1, e2, e3]; rfl, by rw [e3]; exact hx.ext hX, by rw [e2]; exact Stks.nil, hX⟩
    · exact absurd (by decide) h2_1
  · skip
    refine xl_pure rfl rfl rfl (pv_move (v := .tuple _) rfl rfl) ?_
    refine xl_pure rfl rfl rfl (pv_extract (v := .int _ _) rfl rfl rfl) ?_
    refine xl_pure rfl rfl rfl (pv_extract (v := .int _ _) rfl rfl rfl) ?_
    refine xl_pure rfl rfl rfl (pv_assign (v := .int _ _) rfl rfl) ?_
    refine xl_pure rfl rfl rfl (pv_assign (v := .int _ _) rfl rfl) ?_
    refine xl_nil ?_
    refine xthen_normal ?_
    refine xc_seq ?_
    refine xc_seq ?_
    refine xc_region ?_
    refine xl_pure rfl rfl rfl (pv_move (v := .int _ _) rfl rfl) ?_
    refine xl_ndec rfl rfl rfl (pv_neq rfl rfl rfl) (fun h2_1 => ?_) (fun h2_1 => ?_)
    · exact absurd h2_1 (by decide)
    · skip
      refine xl_nil ?_
      refine xthen_normal ?_
      refine xc_cond_t rfl ?_
      refine xc_seq ?_
      refine xc_region ?_
      refine xl_pure rfl rfl rfl (pv_move (v := .slice _ _ _) rfl rfl) ?_
      refine xl_pure rfl rfl rfl (pv_move (v := .int _ _) rfl rfl) ?_
      refine xl_pure rfl rfl rfl (pv_assign (v := .slice _ _ _) rfl rfl) ?_
      refine xl_pure rfl rfl rfl (pv_assign (v := .slice _ _ _) rfl rfl) ?_
      refine xl_pure rfl rfl rfl (pv_assign (v := .int _ _) rfl rfl) ?_
      refine xl_nil ?_
      refine xthen_normal ?_
      refine xc_ret ?_
      refine xthen_ret ?_
      refine fin_ret (res3 (v := .slice _ _ _) (x := .slice _ _ _) (y := .int _ _) rfl rfl rfl rfl) ?_
      obtain ⟨e1, e2, e3⟩ := co_no (l := l) (w := w) (i := i) (p := p) (fun h => ho1_2 h.1)
      exact ⟨a, c, none, 0, by rw [e1, e2, e3]; rfl, by rw [e3]; exact hx.ext hX, by rw [e2]; exact Stks.nil, hX⟩

theorem c20 {O : Outer} {H : Heap} {a : Option Addr} {c : Nat} {l : List (List Int)} (hx : RowsT H 99 5 a l) (hg : GooL l) (hl : l.length < 190000) (w i p t0 t1 t2 t3 : Int) :
    FnC Try.prog 20 #[.slice a l.length c, .int .i64 w, .int .i64 i, .int .i64 p, .agg #[.int .i64 t0, .int .i64 t1, .int .i64 t2, .int .i64 t3]] O H (fun v H' => ∃ a' c', v = .tuple #[.slice a' (reX l w i p t0 t1 t2).length c', .int .i64 (reE w i p t0 t1 t2)] ∧ RowsT H' 99 5 a' (reX l w i p t0 t1 t2) ∧ Ext H H') := by
  have hSl := ofS_len (l := l) (k0 := owN w i) (k1 := 0) (k2 := p)
  have hS32 := ofS_len32 (k0 := owN w i) (k1 := 0) (k2 := p) hg
  refine fn_enter (A := [.slice a l.length c, .int .i64 w, .int .i64 i, .int .i64 p, .agg #[.int .i64 t0, .int .i64 t1, .int .i64 t2, .int .i64 t3]]) Try.func20 rfl rfl ?_
  have hX := Ext.refl H
  refine xc_seq ?_
  refine xc_region ?_
  refine xl_heavy rfl rfl rfl (hv_box rfl rfl) ?_
  rintro v0_0 H0_0 ⟨b0_0, rfl, hN0_0⟩
  have gb0_0 := hX.fresh hN0_0
  have hX := hX.trans hN0_0.ext
  have m0_0 := hN0_0.blk
  refine xl_pure rfl rfl rfl (pv_assign (v := .slice _ _ _) rfl rfl) ?_
  refine xl_pure rfl rfl rfl (pv_assign (v := .int _ _) rfl rfl) ?_
  refine xl_nil ?_
  refine xthen_normal ?_
  refine xc_seq ?_
  refine xc_region ?_
  refine xl_pure rfl rfl rfl (pv_move (v := .int _ _) rfl rfl) ?_
  refine xl_pure rfl rfl rfl (pv_move (v := .int _ _) rfl rfl) ?_
  refine xl_heavy rfl rfl rfl (hv_call (g := 8) rfl rfl (c8 (w) (i)) rfl) ?_
  rintro v1_2 H1_2 ⟨hv1_2, rfl⟩
  rcases hv1_2 with ⟨ho1_2, rfl⟩ | ⟨ho1_2, rfl⟩
  · skip
    refine xl_pure rfl rfl rfl (pv_move (v := .tuple _) rfl rfl) ?_
    refine xl_pure rfl rfl rfl (pv_extract (v := .int _ _) rfl rfl rfl) ?_
    refine xl_pure rfl rfl rfl (pv_extract (v := .int _ _) rfl rfl rfl) ?_
    refine xl_pure rfl rfl rfl (pv_assign (v := .int _ _) rfl rfl) ?_
    refine xl_pure rfl rfl rfl (pv_assign (v := .int _ _) rfl rfl) ?_
    refine xl_nil ?_
    refine xthen_normal ?_
    refine xc_seq ?_
    refine xc_seq ?_
    refine xc_region ?_
    refine xl_pure rfl rfl rfl (pv_move (v := .int _ _) rfl rfl) ?_
    refine xl_ndec rfl rfl rfl (pv_neq rfl rfl rfl) (fun h2_1 => ?_) (fun h2_1 => ?_)
    · skip
      refine xl_nil ?_
      refine xthen_normal ?_
      refine xc_cond_f rfl ?_
      refine xc_skip ?_
      refine xthen_normal ?_
      refine xc_seq ?_
      refine xc_region ?_
      refine xl_pure rfl rfl rfl (pv_fieldAddr rfl rfl) ?_
      refine xl_light rfl rfl rfl (lv_load (v := .int _ _) rfl rfl (ld_blk m0_0 rfl)) ?_
      refine xl_pure rfl rfl rfl (pv_fieldAddr rfl rfl) ?_
      refine xl_light rfl rfl rfl (lv_load (v := .int _ _) rfl rfl (ld_blk m0_0 rfl)) ?_
      refine xl_pure rfl rfl rfl (pv_fieldAddr rfl rfl) ?_
      refine xl_light rfl rfl rfl (lv_load (v := .int _ _) rfl rfl (ld_blk m0_0 rfl)) ?_
      refine xl_heavy rfl rfl rfl (hv_call (g := 54) rfl rfl (c54 t0 t1 t2) rfl) ?_
      rintro v4_6 H4_6 ⟨rfl, hE4_6⟩
      have m0_0 := m0_0.ext hE4_6
      have hX := hX.trans hE4_6
      refine xl_heavy rfl rfl rfl (hv_alloc rfl rfl) ?_
      rintro v4_7 H4_7 ⟨b4_7, rfl, hN4_7⟩
      have gb4_7 := hX.fresh hN4_7
      have nm0_0_4_7 := m0_0.apart hN4_7
      have m0_0 := m0_0.ext hN4_7.ext
      have hX := hX.trans hN4_7.ext
      have m4_7 := hN4_7.blk
      refine xl_store rfl rfl (hv_storeA (vs := [.int _ _, .int _ _, .int _ _, .int _ _]) rfl rfl rfl (m4_7) rfl (by rfl) rfl) ?_
      rintro v4_8 H4_8 ⟨hU4_8, hZ4_8⟩
      have m0_0 := m0_0.off hU4_8.but (by first | exact nm0_0_4_7 | exact ⟨m0_0.ne m4_7 rfl⟩ | exact ⟨m0_0.ne m4_7 (by assumption)⟩ | exact ⟨Ne.symm (m4_7.ne m0_0 (by assumption))⟩)
      have hX := hX.upd hU4_8.but gb4_7
      have m4_7 := hU4_8.blk
      refine xl_nil ?_
      refine xthen_normal ?_
      refine xc_seq ?_
      refine xc_seq ?_
      refine xc_region ?_
      refine xl_pure rfl rfl rfl (pv_move (v := .int _ _) rfl rfl) ?_
      refine xl_pure rfl rfl rfl (pv_move (v := .int _ _) rfl rfl) ?_
      refine xl_heavy rfl rfl rfl (hv_call (g := 54) rfl rfl (c54 (owN w i) 0 p) rfl) ?_
      rintro v5_2 H5_2 ⟨rfl, hE5_2⟩
      have m0_0 := m0_0.ext hE5_2
      have m4_7 := m4_7.ext hE5_2
      have hX := hX.trans hE5_2
      refine xl_heavy rfl rfl rfl (hv_call (g := 48) rfl rfl (c48 (owN w i) 0 p 1) rfl) ?_
      rintro v5_3 H5_3 ⟨hv5_3, hE5_3⟩
      have m0_0 := m0_0.ext hE5_3
      have m4_7 := m4_7.ext hE5_3
      have hX := hX.trans hE5_3
      rcases hv5_3 with ⟨hi5_3, rfl⟩ | ⟨hi5_3, rfl⟩
      · skip
        refine xl_pure rfl rfl rfl (pv_not rfl rfl) ?_
        refine xl_pure rfl rfl rfl (pv_move (v := .bool _) rfl rfl) ?_
        refine xl_light rfl rfl rfl (lv_load (v := .agg _) rfl rfl (ld_blk_a m4_7 rfl rfl)) ?_
        refine xl_heavy rfl rfl rfl (hv_call (g := 48) rfl rfl (c48 t0 t1 t2 1) rfl) ?_
        rintro v5_7 H5_7 ⟨hv5_7, hE5_7⟩
        have m0_0 := m0_0.ext hE5_7
        have m4_7 := m4_7.ext hE5_7
        have hX := hX.trans hE5_7
        rcases hv5_7 with ⟨hi5_7, rfl⟩ | ⟨hi5_7, rfl⟩
        · skip
          refine xl_pure rfl rfl rfl (pv_not rfl rfl) ?_
          refine xl_pure rfl rfl rfl (pv_pick_f (v := .bool _) rfl rfl rfl) ?_
          refine xl_pure rfl rfl rfl (pv_move (v := .bool _) rfl rfl) ?_
          refine xl_pure rfl rfl rfl (pv_fieldAddr rfl rfl) ?_
          refine xl_light rfl rfl rfl (lv_load (v := .int _ _) rfl rfl (ld_blk m0_0 rfl)) ?_
          refine xl_pure rfl rfl rfl (pv_move (v := .int _ _) rfl rfl) ?_
          refine xl_ndec rfl rfl rfl (pv_neq rfl rfl rfl) (fun h5_14 => ?_) (fun h5_14 => ?_)
          · skip
            refine xl_pure rfl rfl rfl (pv_pick_f (v := .bool _) rfl rfl rfl) ?_
            refine xl_nil ?_
            refine xthen_normal ?_
            refine xc_cond_f rfl ?_
            refine xc_skip ?_
            refine xthen_normal ?_
            refine xc_seq ?_
            have hp8 := (isB_own ho1_2).1 hi5_3
            have hib : IsB [owN w i, 0, p, 1] := hi5_3
            have hib2 : IsB [t0, t1, p, 1] := h5_14 ▸ hi5_7
            have hsum : ∀ k : List Int, k.length = 4 → sumS (owN w i) 0 p (ofS l (owN w i) 0 p) k ≤ qtyB l k := fun _ hk => ofS_sum hg hk
            refine xc_region ?_
            refine xl_pure rfl rfl rfl (pv_move (v := .slice _ _ _) rfl rfl) ?_
            refine xl_pure rfl rfl rfl (pv_assign (v := .slice _ _ _) rfl rfl) ?_
            refine xl_nil ?_
            refine xthen_normal ?_
            refine xc_seq ?_
            refine xc_region ?_
            refine xl_pure rfl rfl rfl (pv_move (v := .slice _ _ _) rfl rfl) ?_
            refine xl_pure rfl rfl rfl (pv_move (v := .int _ _) rfl rfl) ?_
            refine xl_pure rfl rfl rfl (pv_move (v := .int _ _) rfl rfl) ?_
            refine xl_pure rfl rfl rfl (pv_move (v := .int _ _) rfl rfl) ?_
            refine xl_heavy rfl rfl rfl (hv_call (g := 16) rfl rfl (c16 (hx.ext hX) hg (by omega) w i p) rfl) ?_
            rintro v8_4 H8_4 ⟨a8_4, c8_4, hv8_4, hS8_4, hE8_4⟩
            have m0_0 := m0_0.ext hE8_4
            have m4_7 := m4_7.ext hE8_4
            have hX := hX.trans hE8_4
            rw [hd_go ho1_2] at hv8_4 hS8_4
            subst hv8_4
            refine xl_pure rfl rfl rfl (pv_assign (v := .slice _ _ _) rfl rfl) ?_
            refine xl_nil ?_
            refine xthen_normal ?_
            refine xc_seq ?_
            refine xc_seq ?_
            refine xc_region ?_
            refine xl_pure rfl rfl rfl (pv_assign (v := .int _ _) rfl rfl) ?_
            refine xl_nil ?_
            refine xthen_normal ?_
            refine xc_block ?_
            refine xc_loop (τ := Nat × Option Addr × Nat) (fun t => [(0, .slice a l.length c), (3, .int .i64 p), (12, .int .i64 (owN w i)), (14, .pointer (some ⟨b4_7, 0, none⟩)), (15, .slice t.2.1 (rlX l (owN w i) p t0 t1 (ofS l (owN w i) 0 p) t.1).length t.2.2), (16, .slice a8_4 (ofS l (owN w i) 0 p).length c8_4), (17, .int .i64 (t.1 : Nat))]) (fun t H' => (t.1 ≤ (ofS l (owN w i) 0 p).length) ∧ (RowsT H' 99 5 t.2.1 (rlX l (owN w i) p t0 t1 (ofS l (owN w i) 0 p) t.1)) ∧ (Stks H' a8_4 (ofS l (owN w i) 0 p)) ∧ (Blk H' b4_7 [.int .i64 t0, .int .i64 t1, .int .i64 t2, .int .i64 1] 37) ∧ ((rlX l (owN w i) p t0 t1 (ofS l (owN w i) 0 p) t.1).length ≤ l.length + 2 * t.1) ∧ (Ext H H')) (fun t H' => (ofS l (owN w i) 0 p).length - t.1) (0, a, c) ?_ ?_ ?_
            · exact ⟨rfl, rfl, rfl, rfl, rfl, rfl, rfl, trivial⟩
            · skip
              exact ⟨Nat.zero_le _, hx.ext hX, hS8_4, m4_7, Nat.le_refl _, hX⟩
            · intro σ
              clear hX m0_0 m4_7 hS8_4
              rintro ⟨j, a1, c1⟩ Hl10 ⟨hj, hQ, hS8_4, m4_7, hly, hX⟩
              replace hj : j ≤ (ofS l (owN w i) 0 p).length := hj
              replace hQ : RowsT Hl10 99 5 a1 (rlX l (owN w i) p t0 t1 (ofS l (owN w i) 0 p) j) := hQ
              replace hS8_4 : Stks Hl10 a8_4 (ofS l (owN w i) 0 p) := hS8_4
              replace m4_7 : Blk Hl10 b4_7 [.int .i64 t0, .int .i64 t1, .int .i64 t2, .int .i64 1] 37 := m4_7
              replace hly : (rlX l (owN w i) p t0 t1 (ofS l (owN w i) 0 p) j).length ≤ l.length + 2 * j := hly
              replace hX : Ext H Hl10 := hX
              obtain ⟨sb, so, hse⟩ := hS8_4.at'
              have hri := rl_inv hg (ofS_fine hg) hsum hib hib2 j hj
              show XC _ _ _ (upds σ [(0, .slice a l.length c), (3, .int .i64 p), (12, .int .i64 (owN w i)), (14, .pointer (some ⟨b4_7, 0, none⟩)), (15, .slice a1 (rlX l (owN w i) p t0 t1 (ofS l (owN w i) 0 p) j).length c1), (16, .slice a8_4 (ofS l (owN w i) 0 p).length c8_4), (17, .int .i64 (j : Nat))]) _
              refine xc_seq ?_
              refine xc_seq ?_
              refine xc_region ?_
              refine xl_pure rfl rfl rfl (pv_move (v := .int _ _) rfl rfl) ?_
              refine xl_pure rfl rfl rfl (pv_move (v := .slice _ _ _) rfl rfl) ?_
              refine xl_pure rfl rfl rfl (pv_len_l rfl rfl) ?_
              refine xl_dec rfl rfl rfl (pv_lss rfl rfl rfl) (fun h10_3 => ?_) (fun h10_3 => ?_)
              · skip
                refine xl_nil ?_
                refine xthen_normal ?_
                refine xc_cond_t rfl ?_
                refine xc_skip ?_
                refine xthen_normal ?_
                refine xc_seq ?_
                refine xc_block ?_
                refine xc_seq ?_
                refine xc_region ?_
                refine xl_pure rfl rfl rfl (pv_move (v := .slice _ _ _) rfl rfl) ?_
                refine xl_pure rfl rfl rfl (pv_move (v := .int _ _) rfl rfl) ?_
                refine xl_pure rfl rfl rfl (pv_indexAddr_l rfl (sl_eq (hse (by omega)).1) rfl (by omega)) ?_
                refine xl_light rfl rfl rfl (lv_load (v := .agg _) rfl rfl (by exact ld_stks hS8_4 (hse (by omega)).1 (by omega))) ?_
                refine xl_heavy rfl rfl rfl (hv_buildSlice (cs := [.int _ _, .int _ _]) rfl rfl rfl rfl rfl) ?_
                rintro v12_4 H12_4 ⟨b12_4, rfl, hN12_4⟩
                have gb12_4 := hX.fresh hN12_4
                have nm4_7_12_4 := m4_7.apart hN12_4
                have m4_7 := m4_7.ext hN12_4.ext
                have hS8_4 := hS8_4.ext hN12_4.ext
                have hQ := hQ.ext hN12_4.ext
                have hX := hX.trans hN12_4.ext
                have m12_4 := hN12_4.blk
                refine xl_pure rfl rfl rfl (pv_assign (v := .slice _ _ _) rfl rfl) ?_
                refine xl_nil ?_
                refine xthen_normal ?_
                refine xc_seq ?_
                have hmo := rl_mo hri hg (ofS_fine hg) hsum hib hib2 (show j < (ofS l (owN w i) 0 p).length by omega)
                have hgt := goo_tak (k := [owN w i, 0, p, gx (ofS l (owN w i) 0 p) j]) (n := gq (ofS l (owN w i) 0 p) j) hri.goo rfl
                refine xp_start rfl (by repeat (first | with_reducible exact np_fin | with_reducible exact np_ret | with_reducible refine np_then ?_ | with_reducible refine np_block ?_)) (by kernel_rfl) ?_
                refine xp_pure (i := 0) rfl (by kernel_rfl) (by kernel_rfl) rfl rfl rfl (pv_move (v := .slice _ _ _) rfl rfl) ?_
                refine xp_pure (i := 1) rfl (by kernel_rfl) (by kernel_rfl) rfl rfl rfl (pv_move (v := .int _ _) rfl rfl) ?_
                refine xp_pure (i := 2) rfl (by kernel_rfl) (by kernel_rfl) rfl rfl rfl (pv_move (v := .int _ _) rfl rfl) ?_
                refine xp_light (i := 4) rfl (by kernel_rfl) (by kernel_rfl) rfl rfl rfl (lv_load (v := .agg _) rfl rfl (ld_blk_a m4_7 rfl rfl)) ?_
                refine xp_pure (i := 5) rfl (by kernel_rfl) (by kernel_rfl) rfl rfl rfl (pv_move (v := .slice _ _ _) rfl rfl) ?_
                refine xp_heavy (i := 3) (by kernel_rfl) ?_
                refine xph_val rfl rfl rfl rfl (hv_call (g := 54) rfl rfl (c54 (owN w i) 0 p) rfl) (pk (by kernel_rfl) pn) ?_
                rintro v13_3 H13_3 ⟨rfl, hE13_3⟩
                have m4_7 := m4_7.ext hE13_3
                have hS8_4 := hS8_4.ext hE13_3
                have hQ := hQ.ext hE13_3
                have m12_4 := m12_4.ext hE13_3
                have hX := hX.trans hE13_3
                refine ⟨(okc (lv_load (v := .agg _) rfl rfl (ld_blk_a m4_7 rfl rfl)) okn), ?_⟩
                refine xp_heavy (i := 6) (by kernel_rfl) ?_
                refine xph_val rfl rfl rfl rfl (hv_call (g := 59) rfl rfl (c59 (l := (rlX l (owN w i) p t0 t1 (ofS l (owN w i) 0 p) j)) hQ hri.goo (by omega) (owN w i) 0 p 1 t0 t1 t2 1 (s := [(gx (ofS l (owN w i) 0 p) j, gq (ofS l (owN w i) 0 p) j)]) (stks_blk (l := [(gx (ofS l (owN w i) 0 p) j, gq (ofS l (owN w i) 0 p) j)]) m12_4) (by simp)) rfl) (pd (by kernel_rfl) pn) ?_
                rintro v13_6 H13_6 ⟨a13_6, c13_6, hv13_6, hQ13_6, hE13_6⟩
                have m4_7 := m4_7.ext hE13_6
                have hS8_4 := hS8_4.ext hE13_6
                have hQ := hQ.ext hE13_6
                have m12_4 := m12_4.ext hE13_6
                have hX := hX.trans hE13_6
                rw [h5_14, hmo.1, hmo.2] at hv13_6
                rw [h5_14, hmo.2] at hQ13_6
                subst hv13_6
                refine ⟨okn, ?_⟩
                refine xp_pure (i := 7) rfl (by kernel_rfl) (by kernel_rfl) rfl rfl rfl (pv_move (v := .tuple _) rfl rfl) ?_
                refine xp_pure (i := 8) rfl (by kernel_rfl) (by kernel_rfl) rfl rfl rfl (pv_extract (v := .slice _ _ _) rfl rfl rfl) ?_
                refine xp_pure (i := 9) rfl (by kernel_rfl) (by kernel_rfl) rfl rfl rfl (pv_extract (v := .int _ _) rfl rfl rfl) ?_
                refine xp_pure (i := 10) rfl (by kernel_rfl) (by kernel_rfl) rfl rfl rfl (pv_assign (v := .slice _ _ _) rfl rfl) ?_
                refine xp_pure (i := 11) rfl (by kernel_rfl) (by kernel_rfl) rfl rfl rfl (pv_assign (v := .int _ _) rfl rfl) ?_
                refine xp_done (by kernel_rfl) ?_
                refine xthen_normal ?_
                refine xc_seq ?_
                refine xc_seq ?_
                refine xc_region ?_
                refine xl_pure rfl rfl rfl (pv_move (v := .int _ _) rfl rfl) ?_
                refine xl_ndec rfl rfl rfl (pv_neq rfl rfl rfl) (fun h14_1 => ?_) (fun h14_1 => ?_)
                · skip
                  refine xl_nil ?_
                  refine xthen_normal ?_
                  refine xc_cond_f rfl ?_
                  refine xc_skip ?_
                  refine xthen_normal ?_
                  refine xc_region ?_
                  refine xl_pure rfl rfl rfl (pv_move (v := .slice _ _ _) rfl rfl) ?_
                  refine xl_pure rfl rfl rfl (pv_assign (v := .slice _ _ _) rfl rfl) ?_
                  refine xl_nil ?_
                  refine xblock_normal ?_
                  refine xthen_normal ?_
                  refine xc_region ?_
                  refine xl_pure rfl rfl rfl (pv_move (v := .int _ _) rfl rfl) ?_
                  refine xl_pure rfl rfl rfl (pv_add rfl rfl rfl (fit_i64 (by omega))) ?_
                  refine xl_pure rfl rfl rfl (pv_assign (v := .int _ _) rfl rfl) ?_
                  refine xl_nil ?_
                  refine xthen_normal ?_
                  exact ⟨(j + 1, _, _), ⟨rfl, rfl, rfl, rfl, rfl, rfl, rfl, trivial⟩, ⟨by (try simp only); omega, hQ13_6, hS8_4, m4_7, by have := (goo_lay (k := [t0, t1, p, gx (ofS l (owN w i) 0 p) j]) (n := gq (ofS l (owN w i) 0 p) j) hgt.1 rfl).2; have := hgt.2; show (layX _ _ _).length ≤ _; omega, hX⟩, by (try simp only); omega⟩
                · exact absurd (by decide) h14_1
              · skip
                refine xl_nil ?_
                refine xthen_normal ?_
                refine xc_cond_f rfl ?_
                refine xc_exit ?_
                refine xthen_exit ?_
                refine xthen_exit ?_
                refine xblock_same ?_
                refine xthen_normal ?_
                refine xc_seq ?_
                refine xc_region ?_
                refine xl_pure rfl rfl rfl (pv_move (v := .slice _ _ _) rfl rfl) ?_
                refine xl_pure rfl rfl rfl (pv_assign (v := .slice _ _ _) rfl rfl) ?_
                refine xl_pure rfl rfl rfl (pv_assign (v := .int _ _) rfl rfl) ?_
                refine xl_nil ?_
                refine xthen_normal ?_
                refine xc_ret ?_
                refine fin_ret (res2 (v := .slice _ _ _) (x := .int _ _) rfl rfl rfl) ?_
                obtain rfl : j = (ofS l (owN w i) 0 p).length := by omega
                obtain ⟨e1, e2⟩ := re_done hg ho1_2 h5_14 hi5_7
                exact ⟨a1, c1, by rw [e1, e2], by rw [e2]; exact hQ, hX⟩
          · skip
            refine xl_pure rfl rfl rfl (pv_pick_f (v := .bool _) rfl rfl rfl) ?_
            refine xl_nil ?_
            refine xthen_normal ?_
            refine xc_cond_t rfl ?_
            refine xc_seq ?_
            refine xc_region ?_
            refine xl_pure rfl rfl rfl (pv_move (v := .slice _ _ _) rfl rfl) ?_
            refine xl_pure rfl rfl rfl (pv_assign (v := .slice _ _ _) rfl rfl) ?_
            refine xl_pure rfl rfl rfl (pv_assign (v := .int _ _) rfl rfl) ?_
            refine xl_nil ?_
            refine xthen_normal ?_
            refine xc_ret ?_
            refine xthen_ret ?_
            refine fin_ret (res2 (v := .slice _ _ _) (x := .int _ _) rfl rfl rfl) ?_
            obtain ⟨e1, e2⟩ := re_no (l := l) (w := w) (i := i) (p := p) (t0 := t0) (t1 := t1) (t2 := t2) (fun h => by first | exact hi5_7 h.2.2 | exact h5_14 h.2.1 | exact hi5_3 ((isB_own ho1_2).2 (by have h2 := (isB_iff.1 h.2.2).2.2.1; have h3 := h.2.1; omega)))
            exact ⟨a, c, by rw [e1, e2], by rw [e2]; exact hx.ext hX, hX⟩
        · skip
          refine xl_pure rfl rfl rfl (pv_not rfl rfl) ?_
          refine xl_pure rfl rfl rfl (pv_pick_f (v := .bool _) rfl rfl rfl) ?_
          refine xl_pure rfl rfl rfl (pv_move (v := .bool _) rfl rfl) ?_
          refine xl_skip rfl rfl rfl ?_
          refine xl_skip rfl rfl rfl ?_
          refine xl_skip rfl rfl rfl ?_
          refine xl_skip rfl rfl rfl ?_
          refine xl_pure rfl rfl rfl (pv_pick_t (v := .bool _) rfl rfl rfl) ?_
          refine xl_nil ?_
          refine xthen_normal ?_
          refine xc_cond_t rfl ?_
          refine xc_seq ?_
          refine xc_region ?_
          refine xl_pure rfl rfl rfl (pv_move (v := .slice _ _ _) rfl rfl) ?_
          refine xl_pure rfl rfl rfl (pv_assign (v := .slice _ _ _) rfl rfl) ?_
          refine xl_pure rfl rfl rfl (pv_assign (v := .int _ _) rfl rfl) ?_
          refine xl_nil ?_
          refine xthen_normal ?_
          refine xc_ret ?_
          refine xthen_ret ?_
          refine fin_ret (res2 (v := .slice _ _ _) (x := .int _ _) rfl rfl rfl) ?_
          obtain ⟨e1, e2⟩ := re_no (l := l) (w := w) (i := i) (p := p) (t0 := t0) (t1 := t1) (t2 := t2) (fun h => by first | exact hi5_7 h.2.2 | exact h5_14 h.2.1 | exact hi5_3 ((isB_own ho1_2).2 (by have h2 := (isB_iff.1 h.2.2).2.2.1; have h3 := h.2.1; omega)))
          exact ⟨a, c, by rw [e1, e2], by rw [e2]; exact hx.ext hX, hX⟩
      · skip
        refine xl_pure rfl rfl rfl (pv_not rfl rfl) ?_
        refine xl_pure rfl rfl rfl (pv_move (v := .bool _) rfl rfl) ?_
        refine xl_skip rfl rfl rfl ?_
        refine xl_skip rfl rfl rfl ?_
        refine xl_skip rfl rfl rfl ?_
        refine xl_pure rfl rfl rfl (pv_pick_t (v := .bool _) rfl rfl rfl) ?_
        refine xl_pure rfl rfl rfl (pv_move (v := .bool _) rfl rfl) ?_
        refine xl_skip rfl rfl rfl ?_
        refine xl_skip rfl rfl rfl ?_
        refine xl_skip rfl rfl rfl ?_
        refine xl_skip rfl rfl rfl ?_
        refine xl_pure rfl rfl rfl (pv_pick_t (v := .bool _) rfl rfl rfl) ?_
        refine xl_nil ?_
        refine xthen_normal ?_
        refine xc_cond_t rfl ?_
        refine xc_seq ?_
        refine xc_region ?_
        refine xl_pure rfl rfl rfl (pv_move (v := .slice _ _ _) rfl rfl) ?_
        refine xl_pure rfl rfl rfl (pv_assign (v := .slice _ _ _) rfl rfl) ?_
        refine xl_pure rfl rfl rfl (pv_assign (v := .int _ _) rfl rfl) ?_
        refine xl_nil ?_
        refine xthen_normal ?_
        refine xc_ret ?_
        refine xthen_ret ?_
        refine fin_ret (res2 (v := .slice _ _ _) (x := .int _ _) rfl rfl rfl) ?_
        obtain ⟨e1, e2⟩ := re_no (l := l) (w := w) (i := i) (p := p) (t0 := t0) (t1 := t1) (t2 := t2) (fun h => by first | exact hi5_7 h.2.2 | exact h5_14 h.2.1 | exact hi5_3 ((isB_own ho1_2).2 (by have h2 := (isB_iff.1 h.2.2).2.2.1; have h3 := h.2.1; omega)))
        exact ⟨a, c, by rw [e1, e2], by rw [e2]; exact hx.ext hX, hX⟩
    · exact absurd (by decide) h2_1
  · skip
    refine xl_pure rfl rfl rfl (pv_move (v := .tuple _) rfl rfl) ?_
    refine xl_pure rfl rfl rfl (pv_extract (v := .int _ _) rfl rfl rfl) ?_
    refine xl_pure rfl rfl rfl (pv_extract (v := .int _ _) rfl rfl rfl) ?_
    refine xl_pure rfl rfl rfl (pv_assign (v := .int _ _) rfl rfl) ?_
    refine xl_pure rfl rfl rfl (pv_assign (v := .int _ _) rfl rfl) ?_
    refine xl_nil ?_
    refine xthen_normal ?_
    refine xc_seq ?_
    refine xc_seq ?_
    refine xc_region ?_
    refine xl_pure rfl rfl rfl (pv_move (v := .int _ _) rfl rfl) ?_
    refine xl_ndec rfl rfl rfl (pv_neq rfl rfl rfl) (fun h2_1 => ?_) (fun h2_1 => ?_)
    · exact absurd h2_1 (by decide)
    · skip
      refine xl_nil ?_
      refine xthen_normal ?_
      refine xc_cond_t rfl ?_
      refine xc_seq ?_
      refine xc_region ?_
      refine xl_pure rfl rfl rfl (pv_move (v := .slice _ _ _) rfl rfl) ?_
      refine xl_pure rfl rfl rfl (pv_move (v := .int _ _) rfl rfl) ?_
      refine xl_pure rfl rfl rfl (pv_assign (v := .slice _ _ _) rfl rfl) ?_
      refine xl_pure rfl rfl rfl (pv_assign (v := .int _ _) rfl rfl) ?_
      refine xl_nil ?_
      refine xthen_normal ?_
      refine xc_ret ?_
      refine xthen_ret ?_
      refine fin_ret (res2 (v := .slice _ _ _) (x := .int _ _) rfl rfl rfl) ?_
      obtain ⟨e1, e2⟩ := re_no (l := l) (w := w) (i := i) (p := p) (t0 := t0) (t1 := t1) (t2 := t2) (fun h => ho1_2 h.1)
      exact ⟨a, c, by rw [e1, e2], by rw [e2]; exact hx.ext hX, hX⟩
end Go.XG
