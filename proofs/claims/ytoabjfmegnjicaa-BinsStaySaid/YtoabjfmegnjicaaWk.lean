/-
  Walks of the seat's functions over the logic XG: each function, what it computes. Printed by a program out of wip/walks.py.
-/
import Derived.Test.YtoabjfmegnjicaaI
import Derived.Test.YtoabjfmegnjicaaTo
import Derived.Test.YtoabjfmegnjicaaTa
import Derived.Test.YtoabjfmegnjicaaTb
import Derived.Test.YtoabjfmegnjicaaTc
import Derived.Test.YtoabjfmegnjicaaTd
import Derived.Test.YtoabjfmegnjicaaQ
import Derived.Test.YtoabjfmegnjicaaWa
import Derived.Test.YtoabjfmegnjicaaWb
import Derived.Test.YtoabjfmegnjicaaWc
import Derived.Test.YtoabjfmegnjicaaWd
import Derived.Test.YtoabjfmegnjicaaWe
import Derived.Test.YtoabjfmegnjicaaB
import Derived.Test.YtoabjfmegnjicaaWf
import Derived.Test.YtoabjfmegnjicaaD
import Derived.Test.YtoabjfmegnjicaaWg
import Derived.Test.YtoabjfmegnjicaaWh
import Derived.Test.YtoabjfmegnjicaaWi
import Derived.Test.YtoabjfmegnjicaaE
import Derived.Test.YtoabjfmegnjicaaWj
namespace Go.XG
open Go.Proofs
set_option maxRecDepth 4000
set_option maxHeartbeats 4000000
theorem c22 {O : Outer} {H : Heap} {a : Option Addr} {c : Nat} {l : List (List Int)} (hx : RowsT H 74 5 a l) (hg : GooL l) (hl : l.length < 1000000) (z : Int) :
    FnC Try.prog 22 #[.slice a l.length c, .int .i64 z] O H (fun v H' => v = .int .i64 (totB l z) ∧ H = H') := by
  refine fn_enter (A := [.slice a l.length c, .int .i64 z]) Try.func22 rfl rfl ?_
  have hX := Ext.refl H
  refine xc_seq ?_
  refine xc_region ?_
  refine xl_pure rfl rfl rfl (pv_assign (v := .int _ _) rfl rfl) ?_
  refine xl_nil ?_
  refine xthen_normal ?_
  refine xc_seq ?_
  refine xc_region ?_
  refine xl_pure rfl rfl rfl (pv_assign (v := .int _ _) rfl rfl) ?_
  refine xl_nil ?_
  refine xthen_normal ?_
  refine xc_seq ?_
  refine xc_seq ?_
  refine xc_region ?_
  refine xl_pure rfl rfl rfl (pv_assign (v := .int _ _) rfl rfl) ?_
  refine xl_nil ?_
  refine xthen_normal ?_
  refine xc_block ?_
  refine xc_loop (τ := Nat) (fun t => [(0, .slice a l.length c), (1, .int .i64 z), (5, .int .i64 (totB (l.take t) z)), (6, .int .i64 (t : Nat))]) (fun t H' => (t ≤ l.length) ∧ (H = H') ∧ (Ext H H')) (fun t H' => l.length - t) 0 ?_ ?_ ?_
  · exact ⟨rfl, rfl, rfl, rfl, trivial⟩
  · skip
    exact ⟨Nat.zero_le _, rfl, hX⟩
  · intro σ
    clear hX
    rintro i Hl3 ⟨hi, heq, hX⟩
    replace hi : i ≤ l.length := hi
    replace heq : H = Hl3 := heq
    replace hX : Ext H Hl3 := hX
    subst heq
    show XC _ _ _ (upds σ [(0, .slice a l.length c), (1, .int .i64 z), (5, .int .i64 (totB (l.take i) z)), (6, .int .i64 (i : Nat))]) _
    refine xc_seq ?_
    refine xc_seq ?_
    refine xc_region ?_
    refine xl_pure rfl rfl rfl (pv_move (v := .int _ _) rfl rfl) ?_
    refine xl_pure rfl rfl rfl (pv_move (v := .slice _ _ _) rfl rfl) ?_
    refine xl_pure rfl rfl rfl (pv_len_l rfl rfl) ?_
    refine xl_dec rfl rfl rfl (pv_lss rfl rfl rfl) (fun h3_3 => ?_) (fun h3_3 => ?_)
    · skip
      refine xl_nil ?_
      refine xthen_normal ?_
      refine xc_cond_t rfl ?_
      refine xc_skip ?_
      refine xthen_normal ?_
      refine xc_seq ?_
      refine xc_block ?_
      refine xc_seq ?_
      obtain ⟨ba, off, hae⟩ := hx.at
      have tot1 : totB (l.take (i + 1)) z = totB (l.take i) z + (if (gr l (i : Int).toNat).getD 3 0 = z then (gr l (i : Int).toNat).getD 4 0 else 0) := totB_take (l := l) (i := i) (t := z) (by omega)
      have tp1 := tot_part hg (i := i) (by omega) z
      have tp2 := tot_part hg (i := i + 1) (by omega) z
      have tmx := hg.max z
      refine xc_region ?_
      refine xl_pure rfl rfl rfl (pv_move (v := .slice _ _ _) rfl rfl) ?_
      refine xl_pure rfl rfl rfl (pv_move (v := .int _ _) rfl rfl) ?_
      refine xl_pure rfl rfl rfl (pv_indexAddr_l rfl (sl_eq (hae (by omega)).1) rfl (by omega)) ?_
      refine xl_pure rfl rfl rfl (pv_fieldAddr rfl rfl) ?_
      refine xl_pure rfl rfl rfl (pv_fieldAddr rfl rfl) ?_
      refine xl_light rfl rfl rfl (lv_load (v := .int _ _) rfl rfl (by exact ld_num (j := 3) (hae (by omega)).2 hx.wide (by omega) (by decide))) ?_
      refine xl_pure rfl rfl rfl (pv_move (v := .int _ _) rfl rfl) ?_
      refine xl_dec rfl rfl rfl (pv_eql rfl rfl rfl) (fun h5_7 => ?_) (fun h5_7 => ?_)
      · skip
        refine xl_nil ?_
        refine xthen_normal ?_
        refine xc_cond_t rfl ?_
        rw [if_pos h5_7] at tot1
        refine xc_region ?_
        refine xl_pure rfl rfl rfl (pv_move (v := .int _ _) rfl rfl) ?_
        refine xl_pure rfl rfl rfl (pv_move (v := .slice _ _ _) rfl rfl) ?_
        refine xl_pure rfl rfl rfl (pv_move (v := .int _ _) rfl rfl) ?_
        refine xl_pure rfl rfl rfl (pv_indexAddr_l rfl (sl_eq (hae (by omega)).1) rfl (by omega)) ?_
        refine xl_pure rfl rfl rfl (pv_fieldAddr rfl rfl) ?_
        refine xl_light rfl rfl rfl (lv_load (v := .int _ _) rfl rfl (by exact ld_num (j := 4) (hae (by omega)).2 hx.wide (by omega) (by decide))) ?_
        refine xl_pure rfl rfl rfl (pv_add rfl rfl rfl (fit_i64 (by omega))) ?_
        refine xl_pure rfl rfl rfl (pv_assign (v := .int _ _) rfl rfl) ?_
        refine xl_nil ?_
        refine xblock_normal ?_
        refine xthen_normal ?_
        refine xc_region ?_
        refine xl_pure rfl rfl rfl (pv_move (v := .int _ _) rfl rfl) ?_
        refine xl_pure rfl rfl rfl (pv_add rfl rfl rfl (fit_i64 (by omega))) ?_
        refine xl_pure rfl rfl rfl (pv_assign (v := .int _ _) rfl rfl) ?_
        refine xl_nil ?_
        refine xthen_normal ?_
        first
          | exact ⟨i + 1, ⟨rfl, rfl, iv tot1.symm, rfl, trivial⟩, ⟨by (try simp only); omega, rfl, hX⟩, by (try simp only); omega⟩
          | exact ⟨i + 1, ⟨rfl, rfl, iv (by have := tot1; rw [if_neg h5_7, Int.add_zero] at this; exact this.symm), rfl, trivial⟩, ⟨by (try simp only); omega, rfl, hX⟩, by (try simp only); omega⟩
      · skip
        refine xl_nil ?_
        refine xthen_normal ?_
        refine xc_cond_f rfl ?_
        refine xc_skip ?_
        refine xblock_normal ?_
        refine xthen_normal ?_
        refine xc_region ?_
        refine xl_pure rfl rfl rfl (pv_move (v := .int _ _) rfl rfl) ?_
        refine xl_pure rfl rfl rfl (pv_add rfl rfl rfl (fit_i64 (by omega))) ?_
        refine xl_pure rfl rfl rfl (pv_assign (v := .int _ _) rfl rfl) ?_
        refine xl_nil ?_
        refine xthen_normal ?_
        first
          | exact ⟨i + 1, ⟨rfl, rfl, iv tot1.symm, rfl, trivial⟩, ⟨by (try simp only); omega, rfl, hX⟩, by (try simp only); omega⟩
          | exact ⟨i + 1, ⟨rfl, rfl, iv (by have := tot1; rw [if_neg h5_7, Int.add_zero] at this; exact this.symm), rfl, trivial⟩, ⟨by (try simp only); omega, rfl, hX⟩, by (try simp only); omega⟩
    · skip
      refine xl_nil ?_
      refine xthen_normal ?_
      refine xc_cond_f rfl ?_
      refine xc_exit ?_
      refine xthen_exit ?_
      refine xthen_exit ?_
      refine xblock_same ?_
      refine xthen_normal ?_
      refine xc_seq ?_
      refine xc_region ?_
      refine xl_pure rfl rfl rfl (pv_move (v := .int _ _) rfl rfl) ?_
      refine xl_pure rfl rfl rfl (pv_assign (v := .int _ _) rfl rfl) ?_
      refine xl_nil ?_
      refine xthen_normal ?_
      refine xc_ret ?_
      refine fin_ret (res1 (v := .int _ _) rfl rfl) ?_
      exact ⟨iv (by rw [List.take_of_length_le (by omega)]), rfl⟩

theorem c45 {O : Outer} {H : Heap} (k0 k1 k2 k3 : Int) (t : Int) :
    FnC Try.prog 45 #[.agg #[.int .i64 k0, .int .i64 k1, .int .i64 k2, .int .i64 k3], .int .i64 t] O H (fun v H' => v = .agg #[.int .i64 k0, .int .i64 k1, .int .i64 k2, .int .i64 t] ∧ Ext H H') := by
  refine fn_enter (A := [.agg #[.int .i64 k0, .int .i64 k1, .int .i64 k2, .int .i64 k3], .int .i64 t]) Try.func45 rfl rfl ?_
  have hX := Ext.refl H
  refine xc_seq ?_
  refine xc_region ?_
  refine xl_heavy rfl rfl rfl (hv_box rfl rfl) ?_
  rintro v0_0 H0_0 ⟨b0_0, rfl, hN0_0⟩
  have gb0_0 := hX.fresh hN0_0
  have hX := hX.trans hN0_0.ext
  have m0_0 := hN0_0.blk
  refine xl_heavy rfl rfl rfl (hv_alloc rfl rfl) ?_
  rintro v0_1 H0_1 ⟨b0_1, rfl, hN0_1⟩
  have gb0_1 := hX.fresh hN0_1
  have nm0_0_0_1 := m0_0.apart hN0_1
  have m0_0 := m0_0.ext hN0_1.ext
  have hX := hX.trans hN0_1.ext
  have m0_1 := hN0_1.blk
  refine xl_nil ?_
  refine xthen_normal ?_
  refine xc_seq ?_
  refine xc_region ?_
  refine xl_pure rfl rfl rfl (pv_fieldAddr rfl rfl) ?_
  refine xl_light rfl rfl rfl (lv_load (v := .int _ _) rfl rfl (ld_blk m0_0 rfl)) ?_
  refine xl_pure rfl rfl rfl (pv_fieldAddr rfl rfl) ?_
  refine xl_light rfl rfl rfl (lv_load (v := .int _ _) rfl rfl (ld_blk m0_0 rfl)) ?_
  refine xl_pure rfl rfl rfl (pv_fieldAddr rfl rfl) ?_
  refine xl_light rfl rfl rfl (lv_load (v := .int _ _) rfl rfl (ld_blk m0_0 rfl)) ?_
  refine xl_pure rfl rfl rfl (pv_move (v := .int _ _) rfl rfl) ?_
  refine xl_pure rfl rfl rfl (pv_build_s (cs := [.int _ _, .int _ _, .int _ _, .int _ _]) rfl rfl rfl) ?_
  refine xl_store rfl rfl (hv_storeA (vs := [.int _ _, .int _ _, .int _ _, .int _ _]) rfl rfl rfl (m0_1) rfl (by rfl) rfl) ?_
  rintro v1_8 H1_8 ⟨hU1_8, hZ1_8⟩
  have m0_0 := m0_0.off hU1_8.but (by first | exact nm0_0_0_1 | exact ⟨m0_0.ne m0_1 rfl⟩ | exact ⟨m0_0.ne m0_1 (by assumption)⟩ | exact ⟨Ne.symm (m0_1.ne m0_0 (by assumption))⟩)
  have hX := hX.upd hU1_8.but gb0_1
  have m0_1 := hU1_8.blk
  refine xl_nil ?_
  refine xthen_normal ?_
  refine xc_ret ?_
  refine fin_ret (resv1 rfl (rv_c (ty := 23) rfl (ld_blk_a m0_1 rfl rfl))) ?_
  exact ⟨rfl, hX⟩

theorem c40 {O : Outer} {H : Heap} {a : Option Addr} {c : Nat} {l : List (List Int)} (hx : RowsT H 74 5 a l) (hg : GooL l) (hl : l.length < 1000000) (k0 k1 k2 k3 : Int) (n : Int) (hn : n < 9223372036854775808) :
    FnC Try.prog 40 #[.slice a l.length c, .agg #[.int .i64 k0, .int .i64 k1, .int .i64 k2, .int .i64 k3], .int .i64 n] O H (fun v H' => ∃ a' c', v = .tuple #[.slice a' (layX l [k0, k1, k2, k3] n).length c', .int .i64 (layE l [k0, k1, k2, k3] n)] ∧ RowsT H' 74 5 a' (layX l [k0, k1, k2, k3] n) ∧ Ext H H') := by
  refine fn_enter (A := [.slice a l.length c, .agg #[.int .i64 k0, .int .i64 k1, .int .i64 k2, .int .i64 k3], .int .i64 n]) Try.func40 rfl rfl ?_
  have hX := Ext.refl H
  refine xc_seq ?_
  refine xc_region ?_
  refine xl_heavy rfl rfl rfl (hv_box rfl rfl) ?_
  rintro v0_0 H0_0 ⟨b0_0, rfl, hN0_0⟩
  have gb0_0 := hX.fresh hN0_0
  have hX := hX.trans hN0_0.ext
  have m0_0 := hN0_0.blk
  refine xl_pure rfl rfl rfl (pv_assign (v := .slice _ _ _) rfl rfl) ?_
  refine xl_pure rfl rfl rfl (pv_assign (v := .int _ _) rfl rfl) ?_
  refine xl_nil ?_
  refine xthen_normal ?_
  refine xc_seq ?_
  refine xc_seq ?_
  refine xc_region ?_
  refine xl_light rfl rfl rfl (lv_load (v := .agg _) rfl rfl (ld_blk_a m0_0 rfl rfl)) ?_
  refine xl_heavy rfl rfl rfl (hv_call (g := 38) rfl rfl (c38 k0 k1 k2 k3) rfl) ?_
  rintro v1_1 H1_1 ⟨hv1_1, hE1_1⟩
  have m0_0 := m0_0.ext hE1_1
  have hX := hX.trans hE1_1
  rcases hv1_1 with ⟨hi1_1, rfl⟩ | ⟨hi1_1, rfl⟩
  · skip
    refine xl_pure rfl rfl rfl (pv_not rfl rfl) ?_
    refine xl_pure rfl rfl rfl (pv_move (v := .bool _) rfl rfl) ?_
    refine xl_pure rfl rfl rfl (pv_move (v := .int _ _) rfl rfl) ?_
    refine xl_dec rfl rfl rfl (pv_lss rfl rfl rfl) (fun h1_5 => ?_) (fun h1_5 => ?_)
    · skip
      refine xl_pure rfl rfl rfl (pv_pick_f (v := .bool _) rfl rfl rfl) ?_
      refine xl_nil ?_
      refine xthen_normal ?_
      refine xc_cond_t rfl ?_
      refine xc_seq ?_
      refine xc_region ?_
      refine xl_pure rfl rfl rfl (pv_move (v := .slice _ _ _) rfl rfl) ?_
      refine xl_pure rfl rfl rfl (pv_assign (v := .slice _ _ _) rfl rfl) ?_
      refine xl_pure rfl rfl rfl (pv_assign (v := .int _ _) rfl rfl) ?_
      refine xl_nil ?_
      refine xthen_normal ?_
      refine xc_ret ?_
      refine xthen_ret ?_
      refine fin_ret (res2 (v := .slice _ _ _) (x := .int _ _) rfl rfl rfl) ?_
      obtain ⟨e1, e2⟩ := lay_arg (l := l) (k := [k0, k1, k2, k3]) (n := n) (by first | exact .inl hi1_1 | exact .inr (by omega))
      exact ⟨a, c, by rw [e1, e2], by rw [e2]; exact hx.ext hX, hX⟩
    · skip
      refine xl_pure rfl rfl rfl (pv_pick_f (v := .bool _) rfl rfl rfl) ?_
      refine xl_nil ?_
      refine xthen_normal ?_
      refine xc_cond_f rfl ?_
      refine xc_skip ?_
      refine xthen_normal ?_
      refine xc_seq ?_
      refine xc_seq ?_
      have tmx := hg.max k3
      have tp := tot_part hg (i := l.length) (Nat.le_refl _) k3
      rw [List.take_length] at tp
      have hq := hg.qty (k := [k0, k1, k2, k3]) rfl
      have hq2 : qtyB l [k0, k1, k2, k3] ≤ totB l k3 := hq.2
      refine xc_region ?_
      refine xl_pure rfl rfl rfl (pv_move (v := .int _ _) rfl rfl) ?_
      refine xl_pure rfl rfl rfl (pv_move (v := .slice _ _ _) rfl rfl) ?_
      refine xl_pure rfl rfl rfl (pv_fieldAddr rfl rfl) ?_
      refine xl_light rfl rfl rfl (lv_load (v := .int _ _) rfl rfl (ld_blk m0_0 rfl)) ?_
      refine xl_heavy rfl rfl rfl (hv_call (g := 22) rfl rfl (c22 (hx.ext hX) hg hl k3) rfl) ?_
      rintro v3_4 H3_4 ⟨rfl, rfl⟩
      refine xl_pure rfl rfl rfl (pv_sub rfl rfl rfl (fit_i64 (by omega))) ?_
      refine xl_dec rfl rfl rfl (pv_gtr rfl rfl rfl) (fun h3_6 => ?_) (fun h3_6 => ?_)
      · skip
        refine xl_nil ?_
        refine xthen_normal ?_
        refine xc_cond_t rfl ?_
        refine xc_seq ?_
        refine xc_region ?_
        refine xl_pure rfl rfl rfl (pv_move (v := .slice _ _ _) rfl rfl) ?_
        refine xl_pure rfl rfl rfl (pv_assign (v := .slice _ _ _) rfl rfl) ?_
        refine xl_pure rfl rfl rfl (pv_assign (v := .int _ _) rfl rfl) ?_
        refine xl_nil ?_
        refine xthen_normal ?_
        refine xc_ret ?_
        refine xthen_ret ?_
        refine fin_ret (res2 (v := .slice _ _ _) (x := .int _ _) rfl rfl rfl) ?_
        obtain ⟨e1, e2⟩ := lay_over (l := l) (k := [k0, k1, k2, k3]) (n := n) (by rintro (h | h); exact h hi1_1; omega) (show 1125899906842624 - totB l k3 < n by omega)
        exact ⟨a, c, by rw [e1, e2], by rw [e2]; exact hx.ext hX, hX⟩
      · skip
        refine xl_nil ?_
        refine xthen_normal ?_
        refine xc_cond_f rfl ?_
        refine xc_skip ?_
        refine xthen_normal ?_
        refine xc_seq ?_
        refine xp_start rfl (by repeat (first | with_reducible exact np_fin | with_reducible exact np_ret | with_reducible refine np_then ?_ | with_reducible refine np_block ?_)) (by kernel_rfl) ?_
        refine xp_pure (i := 0) rfl (by kernel_rfl) (by kernel_rfl) rfl rfl rfl (pv_move (v := .slice _ _ _) rfl rfl) ?_
        refine xp_light (i := 1) rfl (by kernel_rfl) (by kernel_rfl) rfl rfl rfl (lv_load (v := .agg _) rfl rfl (ld_blk_a m0_0 rfl rfl)) ?_
        refine xp_pure (i := 2) rfl (by kernel_rfl) (by kernel_rfl) rfl rfl rfl (pv_move (v := .slice _ _ _) rfl rfl) ?_
        refine xp_light (i := 3) rfl (by kernel_rfl) (by kernel_rfl) rfl rfl rfl (lv_load (v := .agg _) rfl rfl (ld_blk_a m0_0 rfl rfl)) ?_
        refine xp_pure (i := 5) rfl (by kernel_rfl) (by kernel_rfl) rfl rfl rfl (pv_move (v := .int _ _) rfl rfl) ?_
        refine xp_heavy (i := 4) (by kernel_rfl) ?_
        refine xph_val rfl rfl rfl rfl (hv_call (g := 21) rfl rfl (c21 (hx.ext hX) hg.srt hl [k0, k1, k2, k3] rfl) rfl) (pd (by kernel_rfl) (pk (by kernel_rfl) pn)) ?_
        rintro v5_4 H5_4 ⟨rfl, hE5_4⟩
        have m0_0 := m0_0.ext hE5_4
        have hX := hX.trans hE5_4
        refine ⟨(okc (lv_load (v := .agg _) rfl rfl (ld_blk_a m0_0 rfl rfl)) okn), ?_⟩
        refine xp_pure (i := 6) rfl (by kernel_rfl) (by kernel_rfl) rfl rfl rfl (pv_add rfl rfl rfl (fit_i64 (by omega))) ?_
        refine xp_heavy (i := 7) (by kernel_rfl) ?_
        refine xph_val rfl rfl rfl rfl (hv_call (g := 39) rfl rfl (c39 (hx.ext hX) hg.srt hl [k0, k1, k2, k3] rfl (qtyB l [k0, k1, k2, k3] + n)) rfl) (pd (by kernel_rfl) pn) ?_
        rintro v5_7 H5_7 ⟨a5_7, c5_7, rfl, hQ5_7, hE5_7⟩
        have m0_0 := m0_0.ext hE5_7
        have hX := hX.trans hE5_7
        refine ⟨okn, ?_⟩
        refine xp_pure (i := 8) rfl (by kernel_rfl) (by kernel_rfl) rfl rfl rfl (pv_assign (v := .slice _ _ _) rfl rfl) ?_
        refine xp_pure (i := 9) rfl (by kernel_rfl) (by kernel_rfl) rfl rfl rfl (pv_assign (v := .int _ _) rfl rfl) ?_
        refine xp_done (by kernel_rfl) ?_
        refine xthen_normal ?_
        refine xc_ret ?_
        refine fin_ret (res2 (v := .slice _ _ _) (x := .int _ _) rfl rfl rfl) ?_
        obtain ⟨e1, e2⟩ := lay_ok (l := l) (k := [k0, k1, k2, k3]) (n := n) (by rintro (h | h); exact h hi1_1; omega) (show ¬ 1125899906842624 - totB l k3 < n by omega)
        exact ⟨_, _, by rw [e1, e2], by rw [e2]; exact hQ5_7, hX⟩
  · skip
    refine xl_pure rfl rfl rfl (pv_not rfl rfl) ?_
    refine xl_pure rfl rfl rfl (pv_move (v := .bool _) rfl rfl) ?_
    refine xl_skip rfl rfl rfl ?_
    refine xl_skip rfl rfl rfl ?_
    refine xl_pure rfl rfl rfl (pv_pick_t (v := .bool _) rfl rfl rfl) ?_
    refine xl_nil ?_
    refine xthen_normal ?_
    refine xc_cond_t rfl ?_
    refine xc_seq ?_
    refine xc_region ?_
    refine xl_pure rfl rfl rfl (pv_move (v := .slice _ _ _) rfl rfl) ?_
    refine xl_pure rfl rfl rfl (pv_assign (v := .slice _ _ _) rfl rfl) ?_
    refine xl_pure rfl rfl rfl (pv_assign (v := .int _ _) rfl rfl) ?_
    refine xl_nil ?_
    refine xthen_normal ?_
    refine xc_ret ?_
    refine xthen_ret ?_
    refine fin_ret (res2 (v := .slice _ _ _) (x := .int _ _) rfl rfl rfl) ?_
    obtain ⟨e1, e2⟩ := lay_arg (l := l) (k := [k0, k1, k2, k3]) (n := n) (by first | exact .inl hi1_1 | exact .inr (by omega))
    exact ⟨a, c, by rw [e1, e2], by rw [e2]; exact hx.ext hX, hX⟩

theorem c41 {O : Outer} {H : Heap} {a : Option Addr} {c : Nat} {l : List (List Int)} (hx : RowsT H 74 5 a l) (hg : GooL l) (hl : l.length < 1000000) (k0 k1 k2 k3 : Int) (n : Int) :
    FnC Try.prog 41 #[.slice a l.length c, .agg #[.int .i64 k0, .int .i64 k1, .int .i64 k2, .int .i64 k3], .int .i64 n] O H (fun v H' => ∃ a' c', v = .tuple #[.slice a' (takX l [k0, k1, k2, k3] n).length c', .int .i64 (takE l [k0, k1, k2, k3] n)] ∧ RowsT H' 74 5 a' (takX l [k0, k1, k2, k3] n) ∧ Ext H H') := by
  refine fn_enter (A := [.slice a l.length c, .agg #[.int .i64 k0, .int .i64 k1, .int .i64 k2, .int .i64 k3], .int .i64 n]) Try.func41 rfl rfl ?_
  have hX := Ext.refl H
  refine xc_seq ?_
  refine xc_region ?_
  refine xl_heavy rfl rfl rfl (hv_box rfl rfl) ?_
  rintro v0_0 H0_0 ⟨b0_0, rfl, hN0_0⟩
  have gb0_0 := hX.fresh hN0_0
  have hX := hX.trans hN0_0.ext
  have m0_0 := hN0_0.blk
  refine xl_pure rfl rfl rfl (pv_assign (v := .slice _ _ _) rfl rfl) ?_
  refine xl_pure rfl rfl rfl (pv_assign (v := .int _ _) rfl rfl) ?_
  refine xl_nil ?_
  refine xthen_normal ?_
  refine xc_seq ?_
  refine xc_seq ?_
  refine xc_region ?_
  refine xl_light rfl rfl rfl (lv_load (v := .agg _) rfl rfl (ld_blk_a m0_0 rfl rfl)) ?_
  refine xl_heavy rfl rfl rfl (hv_call (g := 38) rfl rfl (c38 k0 k1 k2 k3) rfl) ?_
  rintro v1_1 H1_1 ⟨hv1_1, hE1_1⟩
  have m0_0 := m0_0.ext hE1_1
  have hX := hX.trans hE1_1
  rcases hv1_1 with ⟨hi1_1, rfl⟩ | ⟨hi1_1, rfl⟩
  · skip
    refine xl_pure rfl rfl rfl (pv_not rfl rfl) ?_
    refine xl_pure rfl rfl rfl (pv_move (v := .bool _) rfl rfl) ?_
    refine xl_pure rfl rfl rfl (pv_move (v := .int _ _) rfl rfl) ?_
    refine xl_dec rfl rfl rfl (pv_lss rfl rfl rfl) (fun h1_5 => ?_) (fun h1_5 => ?_)
    · skip
      refine xl_pure rfl rfl rfl (pv_pick_f (v := .bool _) rfl rfl rfl) ?_
      refine xl_nil ?_
      refine xthen_normal ?_
      refine xc_cond_t rfl ?_
      refine xc_seq ?_
      refine xc_region ?_
      refine xl_pure rfl rfl rfl (pv_move (v := .slice _ _ _) rfl rfl) ?_
      refine xl_pure rfl rfl rfl (pv_assign (v := .slice _ _ _) rfl rfl) ?_
      refine xl_pure rfl rfl rfl (pv_assign (v := .int _ _) rfl rfl) ?_
      refine xl_nil ?_
      refine xthen_normal ?_
      refine xc_ret ?_
      refine xthen_ret ?_
      refine fin_ret (res2 (v := .slice _ _ _) (x := .int _ _) rfl rfl rfl) ?_
      obtain ⟨e1, e2⟩ := tak_arg (l := l) (k := [k0, k1, k2, k3]) (n := n) (by first | exact .inl hi1_1 | exact .inr (by omega))
      exact ⟨a, c, by rw [e1, e2], by rw [e2]; exact hx.ext hX, hX⟩
    · skip
      refine xl_pure rfl rfl rfl (pv_pick_f (v := .bool _) rfl rfl rfl) ?_
      refine xl_nil ?_
      refine xthen_normal ?_
      refine xc_cond_f rfl ?_
      refine xc_skip ?_
      refine xthen_normal ?_
      refine xc_seq ?_
      refine xc_seq ?_
      have tmx : totB l k3 ≤ 1125899906842624 := hg.max k3
      have hq := hg.qty (k := [k0, k1, k2, k3]) rfl
      have hq2 : qtyB l [k0, k1, k2, k3] ≤ totB l k3 := hq.2
      refine xc_region ?_
      refine xl_pure rfl rfl rfl (pv_move (v := .int _ _) rfl rfl) ?_
      refine xl_pure rfl rfl rfl (pv_move (v := .slice _ _ _) rfl rfl) ?_
      refine xl_light rfl rfl rfl (lv_load (v := .agg _) rfl rfl (ld_blk_a m0_0 rfl rfl)) ?_
      refine xl_heavy rfl rfl rfl (hv_call (g := 21) rfl rfl (c21 (hx.ext hX) hg.srt hl [k0, k1, k2, k3] rfl) rfl) ?_
      rintro v3_3 H3_3 ⟨rfl, hE3_3⟩
      have m0_0 := m0_0.ext hE3_3
      have hX := hX.trans hE3_3
      refine xl_dec rfl rfl rfl (pv_gtr rfl rfl rfl) (fun h3_4 => ?_) (fun h3_4 => ?_)
      · skip
        refine xl_nil ?_
        refine xthen_normal ?_
        refine xc_cond_t rfl ?_
        refine xc_seq ?_
        refine xc_region ?_
        refine xl_pure rfl rfl rfl (pv_move (v := .slice _ _ _) rfl rfl) ?_
        refine xl_pure rfl rfl rfl (pv_assign (v := .slice _ _ _) rfl rfl) ?_
        refine xl_pure rfl rfl rfl (pv_assign (v := .int _ _) rfl rfl) ?_
        refine xl_nil ?_
        refine xthen_normal ?_
        refine xc_ret ?_
        refine xthen_ret ?_
        refine fin_ret (res2 (v := .slice _ _ _) (x := .int _ _) rfl rfl rfl) ?_
        obtain ⟨e1, e2⟩ := tak_items (l := l) (k := [k0, k1, k2, k3]) (n := n) (by rintro (h | h); exact h hi1_1; omega) (by omega)
        exact ⟨a, c, by rw [e1, e2], by rw [e2]; exact hx.ext hX, hX⟩
      · skip
        refine xl_nil ?_
        refine xthen_normal ?_
        refine xc_cond_f rfl ?_
        refine xc_skip ?_
        refine xthen_normal ?_
        refine xc_seq ?_
        refine xp_start rfl (by repeat (first | with_reducible exact np_fin | with_reducible exact np_ret | with_reducible refine np_then ?_ | with_reducible refine np_block ?_)) (by kernel_rfl) ?_
        refine xp_pure (i := 0) rfl (by kernel_rfl) (by kernel_rfl) rfl rfl rfl (pv_move (v := .slice _ _ _) rfl rfl) ?_
        refine xp_light (i := 1) rfl (by kernel_rfl) (by kernel_rfl) rfl rfl rfl (lv_load (v := .agg _) rfl rfl (ld_blk_a m0_0 rfl rfl)) ?_
        refine xp_pure (i := 2) rfl (by kernel_rfl) (by kernel_rfl) rfl rfl rfl (pv_move (v := .slice _ _ _) rfl rfl) ?_
        refine xp_light (i := 3) rfl (by kernel_rfl) (by kernel_rfl) rfl rfl rfl (lv_load (v := .agg _) rfl rfl (ld_blk_a m0_0 rfl rfl)) ?_
        refine xp_pure (i := 5) rfl (by kernel_rfl) (by kernel_rfl) rfl rfl rfl (pv_move (v := .int _ _) rfl rfl) ?_
        refine xp_heavy (i := 4) (by kernel_rfl) ?_
        refine xph_val rfl rfl rfl rfl (hv_call (g := 21) rfl rfl (c21 (hx.ext hX) hg.srt hl [k0, k1, k2, k3] rfl) rfl) (pd (by kernel_rfl) (pk (by kernel_rfl) pn)) ?_
        rintro v5_4 H5_4 ⟨rfl, hE5_4⟩
        have m0_0 := m0_0.ext hE5_4
        have hX := hX.trans hE5_4
        refine ⟨(okc (lv_load (v := .agg _) rfl rfl (ld_blk_a m0_0 rfl rfl)) okn), ?_⟩
        refine xp_pure (i := 6) rfl (by kernel_rfl) (by kernel_rfl) rfl rfl rfl (pv_sub rfl rfl rfl (fit_i64 (by omega))) ?_
        refine xp_heavy (i := 7) (by kernel_rfl) ?_
        refine xph_val rfl rfl rfl rfl (hv_call (g := 39) rfl rfl (c39 (hx.ext hX) hg.srt hl [k0, k1, k2, k3] rfl (qtyB l [k0, k1, k2, k3] - n)) rfl) (pd (by kernel_rfl) pn) ?_
        rintro v5_7 H5_7 ⟨a5_7, c5_7, rfl, hQ5_7, hE5_7⟩
        have m0_0 := m0_0.ext hE5_7
        have hX := hX.trans hE5_7
        refine ⟨okn, ?_⟩
        refine xp_pure (i := 8) rfl (by kernel_rfl) (by kernel_rfl) rfl rfl rfl (pv_assign (v := .slice _ _ _) rfl rfl) ?_
        refine xp_pure (i := 9) rfl (by kernel_rfl) (by kernel_rfl) rfl rfl rfl (pv_assign (v := .int _ _) rfl rfl) ?_
        refine xp_done (by kernel_rfl) ?_
        refine xthen_normal ?_
        refine xc_ret ?_
        refine fin_ret (res2 (v := .slice _ _ _) (x := .int _ _) rfl rfl rfl) ?_
        obtain ⟨e1, e2⟩ := tak_ok (l := l) (k := [k0, k1, k2, k3]) (n := n) (by rintro (h | h); exact h hi1_1; omega) (by omega)
        exact ⟨_, _, by rw [e1, e2], by rw [e2]; exact hQ5_7, hX⟩
  · skip
    refine xl_pure rfl rfl rfl (pv_not rfl rfl) ?_
    refine xl_pure rfl rfl rfl (pv_move (v := .bool _) rfl rfl) ?_
    refine xl_skip rfl rfl rfl ?_
    refine xl_skip rfl rfl rfl ?_
    refine xl_pure rfl rfl rfl (pv_pick_t (v := .bool _) rfl rfl rfl) ?_
    refine xl_nil ?_
    refine xthen_normal ?_
    refine xc_cond_t rfl ?_
    refine xc_seq ?_
    refine xc_region ?_
    refine xl_pure rfl rfl rfl (pv_move (v := .slice _ _ _) rfl rfl) ?_
    refine xl_pure rfl rfl rfl (pv_assign (v := .slice _ _ _) rfl rfl) ?_
    refine xl_pure rfl rfl rfl (pv_assign (v := .int _ _) rfl rfl) ?_
    refine xl_nil ?_
    refine xthen_normal ?_
    refine xc_ret ?_
    refine xthen_ret ?_
    refine fin_ret (res2 (v := .slice _ _ _) (x := .int _ _) rfl rfl rfl) ?_
    obtain ⟨e1, e2⟩ := tak_arg (l := l) (k := [k0, k1, k2, k3]) (n := n) (by first | exact .inl hi1_1 | exact .inr (by omega))
    exact ⟨a, c, by rw [e1, e2], by rw [e2]; exact hx.ext hX, hX⟩

theorem c42 {O : Outer} {H : Heap} {a : Option Addr} {c : Nat} {l : List (List Int)} (hx : RowsT H 74 5 a l) (hg : GooL l) (hl : l.length < 900000) (k0 k1 k2 k3 : Int) (m0 m1 m2 m3 : Int) (n : Int) (hn : n < 9223372036854775808) :
    FnC Try.prog 42 #[.slice a l.length c, .agg #[.int .i64 k0, .int .i64 k1, .int .i64 k2, .int .i64 k3], .agg #[.int .i64 m0, .int .i64 m1, .int .i64 m2, .int .i64 m3], .int .i64 n] O H (fun v H' => ∃ a' c', v = .tuple #[.slice a' (movX l [k0, k1, k2, k3] [m0, m1, m2, m3] n).length c', .int .i64 (movE l [k0, k1, k2, k3] [m0, m1, m2, m3] n)] ∧ RowsT H' 74 5 a' (movX l [k0, k1, k2, k3] [m0, m1, m2, m3] n) ∧ Ext H H') := by
  refine fn_enter (A := [.slice a l.length c, .agg #[.int .i64 k0, .int .i64 k1, .int .i64 k2, .int .i64 k3], .agg #[.int .i64 m0, .int .i64 m1, .int .i64 m2, .int .i64 m3], .int .i64 n]) Try.func42 rfl rfl ?_
  have hX := Ext.refl H
  refine xc_seq ?_
  refine xc_region ?_
  refine xl_heavy rfl rfl rfl (hv_box rfl rfl) ?_
  rintro v0_0 H0_0 ⟨b0_0, rfl, hN0_0⟩
  have gb0_0 := hX.fresh hN0_0
  have hX := hX.trans hN0_0.ext
  have m0_0 := hN0_0.blk
  refine xl_heavy rfl rfl rfl (hv_box rfl rfl) ?_
  rintro v0_1 H0_1 ⟨b0_1, rfl, hN0_1⟩
  have gb0_1 := hX.fresh hN0_1
  have nm0_0_0_1 := m0_0.apart hN0_1
  have m0_0 := m0_0.ext hN0_1.ext
  have hX := hX.trans hN0_1.ext
  have m0_1 := hN0_1.blk
  refine xl_pure rfl rfl rfl (pv_assign (v := .slice _ _ _) rfl rfl) ?_
  refine xl_pure rfl rfl rfl (pv_assign (v := .int _ _) rfl rfl) ?_
  refine xl_nil ?_
  refine xthen_normal ?_
  refine xc_seq ?_
  refine xc_seq ?_
  refine xc_region ?_
  refine xl_light rfl rfl rfl (lv_load (v := .agg _) rfl rfl (ld_blk_a m0_0 rfl rfl)) ?_
  refine xl_heavy rfl rfl rfl (hv_call (g := 38) rfl rfl (c38 k0 k1 k2 k3) rfl) ?_
  rintro v1_1 H1_1 ⟨hv1_1, hE1_1⟩
  have m0_0 := m0_0.ext hE1_1
  have m0_1 := m0_1.ext hE1_1
  have hX := hX.trans hE1_1
  rcases hv1_1 with ⟨hi1_1, rfl⟩ | ⟨hi1_1, rfl⟩
  · skip
    refine xl_pure rfl rfl rfl (pv_not rfl rfl) ?_
    refine xl_pure rfl rfl rfl (pv_move (v := .bool _) rfl rfl) ?_
    refine xl_light rfl rfl rfl (lv_load (v := .agg _) rfl rfl (ld_blk_a m0_1 rfl rfl)) ?_
    refine xl_heavy rfl rfl rfl (hv_call (g := 38) rfl rfl (c38 m0 m1 m2 m3) rfl) ?_
    rintro v1_5 H1_5 ⟨hv1_5, hE1_5⟩
    have m0_0 := m0_0.ext hE1_5
    have m0_1 := m0_1.ext hE1_5
    have hX := hX.trans hE1_5
    rcases hv1_5 with ⟨hi1_5, rfl⟩ | ⟨hi1_5, rfl⟩
    · skip
      refine xl_pure rfl rfl rfl (pv_not rfl rfl) ?_
      refine xl_pure rfl rfl rfl (pv_pick_f (v := .bool _) rfl rfl rfl) ?_
      refine xl_pure rfl rfl rfl (pv_move (v := .bool _) rfl rfl) ?_
      refine xl_pure rfl rfl rfl (pv_fieldAddr rfl rfl) ?_
      refine xl_light rfl rfl rfl (lv_load (v := .int _ _) rfl rfl (ld_blk m0_0 rfl)) ?_
      refine xl_pure rfl rfl rfl (pv_fieldAddr rfl rfl) ?_
      refine xl_light rfl rfl rfl (lv_load (v := .int _ _) rfl rfl (ld_blk m0_1 rfl)) ?_
      refine xl_ndec rfl rfl rfl (pv_neq rfl rfl rfl) (fun h1_13 => ?_) (fun h1_13 => ?_)
      · skip
        refine xl_pure rfl rfl rfl (pv_pick_f (v := .bool _) rfl rfl rfl) ?_
        refine xl_pure rfl rfl rfl (pv_move (v := .bool _) rfl rfl) ?_
        refine xl_pure rfl rfl rfl (pv_move (v := .int _ _) rfl rfl) ?_
        refine xl_dec rfl rfl rfl (pv_lss rfl rfl rfl) (fun h1_17 => ?_) (fun h1_17 => ?_)
        · skip
          refine xl_pure rfl rfl rfl (pv_pick_f (v := .bool _) rfl rfl rfl) ?_
          refine xl_nil ?_
          refine xthen_normal ?_
          refine xc_cond_t rfl ?_
          refine xc_seq ?_
          refine xc_region ?_
          refine xl_pure rfl rfl rfl (pv_move (v := .slice _ _ _) rfl rfl) ?_
          refine xl_pure rfl rfl rfl (pv_assign (v := .slice _ _ _) rfl rfl) ?_
          refine xl_pure rfl rfl rfl (pv_assign (v := .int _ _) rfl rfl) ?_
          refine xl_nil ?_
          refine xthen_normal ?_
          refine xc_ret ?_
          refine xthen_ret ?_
          refine fin_ret (res2 (v := .slice _ _ _) (x := .int _ _) rfl rfl rfl) ?_
          first
            | (have h5 := mov_arg' (l := l) (k := [k0, k1, k2, k3]) (m := [m0, m1, m2, m3]) (n := n) (.inl hi1_1); obtain ⟨e1, e2⟩ := h5; exact ⟨a, c, by rw [e1, e2], by rw [e2]; exact hx.ext hX, hX⟩)
            | (have h5 := mov_arg' (l := l) (k := [k0, k1, k2, k3]) (m := [m0, m1, m2, m3]) (n := n) (.inr (.inl hi1_5)); obtain ⟨e1, e2⟩ := h5; exact ⟨a, c, by rw [e1, e2], by rw [e2]; exact hx.ext hX, hX⟩)
            | (have h5 := mov_arg' (l := l) (k := [k0, k1, k2, k3]) (m := [m0, m1, m2, m3]) (n := n) (.inr (.inr (.inl h1_13))); obtain ⟨e1, e2⟩ := h5; exact ⟨a, c, by rw [e1, e2], by rw [e2]; exact hx.ext hX, hX⟩)
            | (have h5 := mov_arg' (l := l) (k := [k0, k1, k2, k3]) (m := [m0, m1, m2, m3]) (n := n) (.inr (.inr (.inr (by omega)))); obtain ⟨e1, e2⟩ := h5; exact ⟨a, c, by rw [e1, e2], by rw [e2]; exact hx.ext hX, hX⟩)
        · skip
          refine xl_pure rfl rfl rfl (pv_pick_f (v := .bool _) rfl rfl rfl) ?_
          refine xl_nil ?_
          refine xthen_normal ?_
          refine xc_cond_f rfl ?_
          refine xc_skip ?_
          refine xthen_normal ?_
          refine xc_seq ?_
          refine xc_region ?_
          refine xl_pure rfl rfl rfl (pv_move (v := .slice _ _ _) rfl rfl) ?_
          refine xl_light rfl rfl rfl (lv_load (v := .agg _) rfl rfl (ld_blk_a m0_0 rfl rfl)) ?_
          refine xl_pure rfl rfl rfl (pv_move (v := .int _ _) rfl rfl) ?_
          refine xl_heavy rfl rfl rfl (hv_call (g := 41) rfl rfl (c41 (hx.ext hX) hg (by omega) k0 k1 k2 k3 n) rfl) ?_
          rintro v3_3 H3_3 ⟨a3_3, c3_3, rfl, hQ3_3, hE3_3⟩
          have m0_0 := m0_0.ext hE3_3
          have m0_1 := m0_1.ext hE3_3
          have hX := hX.trans hE3_3
          refine xl_pure rfl rfl rfl (pv_move (v := .tuple _) rfl rfl) ?_
          refine xl_pure rfl rfl rfl (pv_extract (v := .slice _ _ _) rfl rfl rfl) ?_
          refine xl_pure rfl rfl rfl (pv_extract (v := .int _ _) rfl rfl rfl) ?_
          refine xl_pure rfl rfl rfl (pv_assign (v := .slice _ _ _) rfl rfl) ?_
          refine xl_pure rfl rfl rfl (pv_assign (v := .int _ _) rfl rfl) ?_
          refine xl_nil ?_
          refine xthen_normal ?_
          refine xc_seq ?_
          refine xc_seq ?_
          refine xc_region ?_
          refine xl_pure rfl rfl rfl (pv_move (v := .int _ _) rfl rfl) ?_
          refine xl_ndec rfl rfl rfl (pv_neq rfl rfl rfl) (fun h4_1 => ?_) (fun h4_1 => ?_)
          · skip
            refine xl_nil ?_
            refine xthen_normal ?_
            refine xc_cond_f rfl ?_
            refine xc_skip ?_
            refine xthen_normal ?_
            refine xc_seq ?_
            obtain ⟨hgt, hlt⟩ := goo_tak (k := [k0, k1, k2, k3]) (n := n) hg rfl
            refine xc_region ?_
            refine xl_pure rfl rfl rfl (pv_move (v := .slice _ _ _) rfl rfl) ?_
            refine xl_light rfl rfl rfl (lv_load (v := .agg _) rfl rfl (ld_blk_a m0_1 rfl rfl)) ?_
            refine xl_pure rfl rfl rfl (pv_move (v := .int _ _) rfl rfl) ?_
            refine xl_heavy rfl rfl rfl (hv_call (g := 40) rfl rfl (c40 hQ3_3 hgt (by omega) m0 m1 m2 m3 n hn) rfl) ?_
            rintro v6_3 H6_3 ⟨a6_3, c6_3, rfl, hQ6_3, hE6_3⟩
            have m0_0 := m0_0.ext hE6_3
            have m0_1 := m0_1.ext hE6_3
            have hQ3_3 := hQ3_3.ext hE6_3
            have hX := hX.trans hE6_3
            refine xl_pure rfl rfl rfl (pv_extract (v := .slice _ _ _) rfl rfl rfl) ?_
            refine xl_pure rfl rfl rfl (pv_extract (v := .int _ _) rfl rfl rfl) ?_
            refine xl_pure rfl rfl rfl (pv_assign (v := .slice _ _ _) rfl rfl) ?_
            refine xl_pure rfl rfl rfl (pv_assign (v := .int _ _) rfl rfl) ?_
            refine xl_nil ?_
            refine xthen_normal ?_
            refine xc_ret ?_
            refine fin_ret (res2 (v := .slice _ _ _) (x := .int _ _) rfl rfl rfl) ?_
            obtain ⟨e0, e1, e2⟩ := mov_lay (l := l) (k := [k0, k1, k2, k3]) (m := [m0, m1, m2, m3]) (n := n) hg rfl hi1_5 h1_13 h4_1
            exact ⟨_, _, by rw [e1, e2, e0], by rw [e2]; exact hQ6_3, hX⟩
          · skip
            refine xl_nil ?_
            refine xthen_normal ?_
            refine xc_cond_t rfl ?_
            refine xc_seq ?_
            refine xc_region ?_
            refine xl_pure rfl rfl rfl (pv_move (v := .slice _ _ _) rfl rfl) ?_
            refine xl_pure rfl rfl rfl (pv_move (v := .int _ _) rfl rfl) ?_
            refine xl_pure rfl rfl rfl (pv_assign (v := .slice _ _ _) rfl rfl) ?_
            refine xl_pure rfl rfl rfl (pv_assign (v := .int _ _) rfl rfl) ?_
            refine xl_nil ?_
            refine xthen_normal ?_
            refine xc_ret ?_
            refine xthen_ret ?_
            refine fin_ret (res2 (v := .slice _ _ _) (x := .int _ _) rfl rfl rfl) ?_
            obtain ⟨e1, e2⟩ := mov_no (l := l) (k := [k0, k1, k2, k3]) (m := [m0, m1, m2, m3]) (n := n) (by rintro (h | h); exact h hi1_5; exact h h1_13) h4_1
            exact ⟨a, c, by rw [e1, e2], by rw [e2]; exact hx.ext hX, hX⟩
      · skip
        refine xl_pure rfl rfl rfl (pv_pick_f (v := .bool _) rfl rfl rfl) ?_
        refine xl_pure rfl rfl rfl (pv_move (v := .bool _) rfl rfl) ?_
        refine xl_skip rfl rfl rfl ?_
        refine xl_skip rfl rfl rfl ?_
        refine xl_pure rfl rfl rfl (pv_pick_t (v := .bool _) rfl rfl rfl) ?_
        refine xl_nil ?_
        refine xthen_normal ?_
        refine xc_cond_t rfl ?_
        refine xc_seq ?_
        refine xc_region ?_
        refine xl_pure rfl rfl rfl (pv_move (v := .slice _ _ _) rfl rfl) ?_
        refine xl_pure rfl rfl rfl (pv_assign (v := .slice _ _ _) rfl rfl) ?_
        refine xl_pure rfl rfl rfl (pv_assign (v := .int _ _) rfl rfl) ?_
        refine xl_nil ?_
        refine xthen_normal ?_
        refine xc_ret ?_
        refine xthen_ret ?_
        refine fin_ret (res2 (v := .slice _ _ _) (x := .int _ _) rfl rfl rfl) ?_
        first
          | (have h5 := mov_arg' (l := l) (k := [k0, k1, k2, k3]) (m := [m0, m1, m2, m3]) (n := n) (.inl hi1_1); obtain ⟨e1, e2⟩ := h5; exact ⟨a, c, by rw [e1, e2], by rw [e2]; exact hx.ext hX, hX⟩)
          | (have h5 := mov_arg' (l := l) (k := [k0, k1, k2, k3]) (m := [m0, m1, m2, m3]) (n := n) (.inr (.inl hi1_5)); obtain ⟨e1, e2⟩ := h5; exact ⟨a, c, by rw [e1, e2], by rw [e2]; exact hx.ext hX, hX⟩)
          | (have h5 := mov_arg' (l := l) (k := [k0, k1, k2, k3]) (m := [m0, m1, m2, m3]) (n := n) (.inr (.inr (.inl h1_13))); obtain ⟨e1, e2⟩ := h5; exact ⟨a, c, by rw [e1, e2], by rw [e2]; exact hx.ext hX, hX⟩)
          | (have h5 := mov_arg' (l := l) (k := [k0, k1, k2, k3]) (m := [m0, m1, m2, m3]) (n := n) (.inr (.inr (.inr (by omega)))); obtain ⟨e1, e2⟩ := h5; exact ⟨a, c, by rw [e1, e2], by rw [e2]; exact hx.ext hX, hX⟩)
    · skip
      refine xl_pure rfl rfl rfl (pv_not rfl rfl) ?_
      refine xl_pure rfl rfl rfl (pv_pick_f (v := .bool _) rfl rfl rfl) ?_
      refine xl_pure rfl rfl rfl (pv_move (v := .bool _) rfl rfl) ?_
      refine xl_skip rfl rfl rfl ?_
      refine xl_skip rfl rfl rfl ?_
      refine xl_skip rfl rfl rfl ?_
      refine xl_skip rfl rfl rfl ?_
      refine xl_skip rfl rfl rfl ?_
      refine xl_pure rfl rfl rfl (pv_pick_t (v := .bool _) rfl rfl rfl) ?_
      refine xl_pure rfl rfl rfl (pv_move (v := .bool _) rfl rfl) ?_
      refine xl_skip rfl rfl rfl ?_
      refine xl_skip rfl rfl rfl ?_
      refine xl_pure rfl rfl rfl (pv_pick_t (v := .bool _) rfl rfl rfl) ?_
      refine xl_nil ?_
      refine xthen_normal ?_
      refine xc_cond_t rfl ?_
      refine xc_seq ?_
      refine xc_region ?_
      refine xl_pure rfl rfl rfl (pv_move (v := .slice _ _ _) rfl rfl) ?_
      refine xl_pure rfl rfl rfl (pv_assign (v := .slice _ _ _) rfl rfl) ?_
      refine xl_pure rfl rfl rfl (pv_assign (v := .int _ _) rfl rfl) ?_
      refine xl_nil ?_
      refine xthen_normal ?_
      refine xc_ret ?_
      refine xthen_ret ?_
      refine fin_ret (res2 (v := .slice _ _ _) (x := .int _ _) rfl rfl rfl) ?_
      first
        | (have h5 := mov_arg' (l := l) (k := [k0, k1, k2, k3]) (m := [m0, m1, m2, m3]) (n := n) (.inl hi1_1); obtain ⟨e1, e2⟩ := h5; exact ⟨a, c, by rw [e1, e2], by rw [e2]; exact hx.ext hX, hX⟩)
        | (have h5 := mov_arg' (l := l) (k := [k0, k1, k2, k3]) (m := [m0, m1, m2, m3]) (n := n) (.inr (.inl hi1_5)); obtain ⟨e1, e2⟩ := h5; exact ⟨a, c, by rw [e1, e2], by rw [e2]; exact hx.ext hX, hX⟩)
        | (have h5 := mov_arg' (l := l) (k := [k0, k1, k2, k3]) (m := [m0, m1, m2, m3]) (n := n) (.inr (.inr (.inl h1_13))); obtain ⟨e1, e2⟩ := h5; exact ⟨a, c, by rw [e1, e2], by rw [e2]; exact hx.ext hX, hX⟩)
        | (have h5 := mov_arg' (l := l) (k := [k0, k1, k2, k3]) (m := [m0, m1, m2, m3]) (n := n) (.inr (.inr (.inr (by omega)))); obtain ⟨e1, e2⟩ := h5; exact ⟨a, c, by rw [e1, e2], by rw [e2]; exact hx.ext hX, hX⟩)
  · skip
    refine xl_pure rfl rfl rfl (pv_not rfl rfl) ?_
    refine xl_pure rfl rfl rfl (pv_move (v := .bool _) rfl rfl) ?_
    refine xl_skip rfl rfl rfl ?_
    refine xl_skip rfl rfl rfl ?_
    refine xl_skip rfl rfl rfl ?_
    refine xl_pure rfl rfl rfl (pv_pick_t (v := .bool _) rfl rfl rfl) ?_
    refine xl_pure rfl rfl rfl (pv_move (v := .bool _) rfl rfl) ?_
    refine xl_skip rfl rfl rfl ?_
    refine xl_skip rfl rfl rfl ?_
    refine xl_skip rfl rfl rfl ?_
    refine xl_skip rfl rfl rfl ?_
    refine xl_skip rfl rfl rfl ?_
    refine xl_pure rfl rfl rfl (pv_pick_t (v := .bool _) rfl rfl rfl) ?_
    refine xl_pure rfl rfl rfl (pv_move (v := .bool _) rfl rfl) ?_
    refine xl_skip rfl rfl rfl ?_
    refine xl_skip rfl rfl rfl ?_
    refine xl_pure rfl rfl rfl (pv_pick_t (v := .bool _) rfl rfl rfl) ?_
    refine xl_nil ?_
    refine xthen_normal ?_
    refine xc_cond_t rfl ?_
    refine xc_seq ?_
    refine xc_region ?_
    refine xl_pure rfl rfl rfl (pv_move (v := .slice _ _ _) rfl rfl) ?_
    refine xl_pure rfl rfl rfl (pv_assign (v := .slice _ _ _) rfl rfl) ?_
    refine xl_pure rfl rfl rfl (pv_assign (v := .int _ _) rfl rfl) ?_
    refine xl_nil ?_
    refine xthen_normal ?_
    refine xc_ret ?_
    refine xthen_ret ?_
    refine fin_ret (res2 (v := .slice _ _ _) (x := .int _ _) rfl rfl rfl) ?_
    first
      | (have h5 := mov_arg' (l := l) (k := [k0, k1, k2, k3]) (m := [m0, m1, m2, m3]) (n := n) (.inl hi1_1); obtain ⟨e1, e2⟩ := h5; exact ⟨a, c, by rw [e1, e2], by rw [e2]; exact hx.ext hX, hX⟩)
      | (have h5 := mov_arg' (l := l) (k := [k0, k1, k2, k3]) (m := [m0, m1, m2, m3]) (n := n) (.inr (.inl hi1_5)); obtain ⟨e1, e2⟩ := h5; exact ⟨a, c, by rw [e1, e2], by rw [e2]; exact hx.ext hX, hX⟩)
      | (have h5 := mov_arg' (l := l) (k := [k0, k1, k2, k3]) (m := [m0, m1, m2, m3]) (n := n) (.inr (.inr (.inl h1_13))); obtain ⟨e1, e2⟩ := h5; exact ⟨a, c, by rw [e1, e2], by rw [e2]; exact hx.ext hX, hX⟩)
      | (have h5 := mov_arg' (l := l) (k := [k0, k1, k2, k3]) (m := [m0, m1, m2, m3]) (n := n) (.inr (.inr (.inr (by omega)))); obtain ⟨e1, e2⟩ := h5; exact ⟨a, c, by rw [e1, e2], by rw [e2]; exact hx.ext hX, hX⟩)
end Go.XG
