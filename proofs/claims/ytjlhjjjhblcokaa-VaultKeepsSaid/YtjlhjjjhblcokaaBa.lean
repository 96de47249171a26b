/-
  Walks of the seat's functions over the logic XG: each function, what it computes. Printed by a program out of wip/walks.py.
-/
import Derived.Test.YtjlhjjjhblcokaaI
import Derived.Test.YtjlhjjjhblcokaaXs
import Derived.Test.YtjlhjjjhblcokaaTo
import Derived.Test.YtjlhjjjhblcokaaTa
import Derived.Test.YtjlhjjjhblcokaaTb
import Derived.Test.YtjlhjjjhblcokaaKb
namespace Go.XG
open Go.Proofs
set_option maxRecDepth 20000
set_option maxHeartbeats 4000000
theorem c45 {O : Outer} {H : Heap} (n f t : Int) :
    FnC Try.prog 45 #[.int .i64 n, .int .i64 f, .int .i64 t] O H (fun v H' => ((f ≤ n ∧ n ≤ t) ∧ v = .bool true ∨ ¬ (f ≤ n ∧ n ≤ t) ∧ v = .bool false) ∧ H = H') := by
  refine fn_enter (A := [.int .i64 n, .int .i64 f, .int .i64 t]) Try.func45 rfl rfl ?_
  have hX := Ext.refl H
  refine xc_seq ?_
  refine xc_region ?_
  refine xl_pure rfl rfl rfl (pv_assign (v := .bool _) rfl rfl) ?_
  refine xl_nil ?_
  refine xthen_normal ?_
  refine xc_seq ?_
  refine xc_region ?_
  refine xl_pure rfl rfl rfl (pv_move (v := .int _ _) rfl rfl) ?_
  refine xl_pure rfl rfl rfl (pv_move (v := .int _ _) rfl rfl) ?_
  refine xl_dec rfl rfl rfl (pv_geq rfl rfl rfl) (fun h1_2 => ?_) (fun h1_2 => ?_)
  · skip
    refine xl_pure rfl rfl rfl (pv_move (v := .bool _) rfl rfl) ?_
    refine xl_pure rfl rfl rfl (pv_move (v := .int _ _) rfl rfl) ?_
    refine xl_pure rfl rfl rfl (pv_move (v := .int _ _) rfl rfl) ?_
    refine xl_dec rfl rfl rfl (pv_leq rfl rfl rfl) (fun h1_6 => ?_) (fun h1_6 => ?_)
    · skip
      refine xl_pure rfl rfl rfl (pv_pick_t (v := .bool _) rfl rfl rfl) ?_
      refine xl_pure rfl rfl rfl (pv_assign (v := .bool _) rfl rfl) ?_
      refine xl_nil ?_
      refine xthen_normal ?_
      refine xc_ret ?_
      refine fin_ret (res1 (v := .bool _) rfl rfl) ?_
      first
        | exact ⟨.inl ⟨by omega, rfl⟩, rfl⟩
        | exact ⟨.inr ⟨by omega, rfl⟩, rfl⟩
    · skip
      refine xl_pure rfl rfl rfl (pv_pick_t (v := .bool _) rfl rfl rfl) ?_
      refine xl_pure rfl rfl rfl (pv_assign (v := .bool _) rfl rfl) ?_
      refine xl_nil ?_
      refine xthen_normal ?_
      refine xc_ret ?_
      refine fin_ret (res1 (v := .bool _) rfl rfl) ?_
      first
        | exact ⟨.inl ⟨by omega, rfl⟩, rfl⟩
        | exact ⟨.inr ⟨by omega, rfl⟩, rfl⟩
  · skip
    refine xl_pure rfl rfl rfl (pv_move (v := .bool _) rfl rfl) ?_
    refine xl_skip rfl rfl rfl ?_
    refine xl_skip rfl rfl rfl ?_
    refine xl_skip rfl rfl rfl ?_
    refine xl_pure rfl rfl rfl (pv_pick_f (v := .bool _) rfl rfl rfl) ?_
    refine xl_pure rfl rfl rfl (pv_assign (v := .bool _) rfl rfl) ?_
    refine xl_nil ?_
    refine xthen_normal ?_
    refine xc_ret ?_
    refine fin_ret (res1 (v := .bool _) rfl rfl) ?_
    first
      | exact ⟨.inl ⟨by omega, rfl⟩, rfl⟩
      | exact ⟨.inr ⟨by omega, rfl⟩, rfl⟩

theorem c47 {O : Outer} {H : Heap} (k0 k1 k2 k3 : Int) :
    FnC Try.prog 47 #[.agg #[.int .i64 k0, .int .i64 k1, .int .i64 k2, .int .i64 k3]] O H (fun v H' => v = .agg #[.int .i64 k0, .int .i64 k1, .int .i64 k2, .int .i64 k3] ∧ Ext H H') := by
  refine fn_enter (A := [.agg #[.int .i64 k0, .int .i64 k1, .int .i64 k2, .int .i64 k3]]) Try.func47 rfl rfl ?_
  have hX := Ext.refl H
  refine xc_seq ?_
  refine xc_region ?_
  refine xl_heavy rfl rfl rfl (hv_box rfl rfl) ?_
  rintro v0_0 H0_0 ⟨b0_0, rfl, hN0_0⟩
  have gb0_0 := hX.fresh hN0_0
  have hX := hX.trans hN0_0.ext
  have m0_0 := hN0_0.blk
  refine xl_heavy rfl rfl rfl (hv_alloc rfl rfl) ?_
  rintro v0_1 H0_1 ⟨b0_1, rfl, hN0_1⟩
  have gb0_1 := hX.fresh hN0_1
  have nm0_0_0_1 := m0_0.apart hN0_1
  have m0_0 := m0_0.ext hN0_1.ext
  have hX := hX.trans hN0_1.ext
  have m0_1 := hN0_1.blk
  refine xl_nil ?_
  refine xthen_normal ?_
  refine xc_seq ?_
  refine xc_region ?_
  refine xl_pure rfl rfl rfl (pv_fieldAddr rfl rfl) ?_
  refine xl_light rfl rfl rfl (lv_load (v := .int _ _) rfl rfl (ld_blk m0_0 rfl)) ?_
  refine xl_pure rfl rfl rfl (pv_fieldAddr rfl rfl) ?_
  refine xl_light rfl rfl rfl (lv_load (v := .int _ _) rfl rfl (ld_blk m0_0 rfl)) ?_
  refine xl_pure rfl rfl rfl (pv_fieldAddr rfl rfl) ?_
  refine xl_light rfl rfl rfl (lv_load (v := .int _ _) rfl rfl (ld_blk m0_0 rfl)) ?_
  refine xl_pure rfl rfl rfl (pv_fieldAddr rfl rfl) ?_
  refine xl_light rfl rfl rfl (lv_load (v := .int _ _) rfl rfl (ld_blk m0_0 rfl)) ?_
  refine xl_pure rfl rfl rfl (pv_build_a (cs := [.int _ _, .int _ _, .int _ _, .int _ _]) rfl rfl rfl) ?_
  refine xl_store rfl rfl (hv_storeA (vs := [.int _ _, .int _ _, .int _ _, .int _ _]) rfl rfl rfl (m0_1) rfl (by rfl) rfl) ?_
  rintro v1_9 H1_9 ⟨hU1_9, hZ1_9⟩
  have m0_0 := m0_0.off hU1_9.but (by first | exact nm0_0_0_1 | exact ⟨m0_0.ne m0_1 rfl⟩ | exact ⟨m0_0.ne m0_1 (by assumption)⟩ | exact ⟨Ne.symm (m0_1.ne m0_0 (by assumption))⟩)
  have hX := hX.upd hU1_9.but gb0_1
  have m0_1 := hU1_9.blk
  refine xl_nil ?_
  refine xthen_normal ?_
  refine xc_ret ?_
  refine fin_ret (resv1 rfl (rv_c (ty := 103) rfl (ld_blk_a m0_1 rfl rfl))) ?_
  exact ⟨rfl, hX⟩

theorem c82 {O : Outer} {H : Heap} (k0 k1 k2 k3 : Int) (t : Int) :
    FnC Try.prog 82 #[.agg #[.int .i64 k0, .int .i64 k1, .int .i64 k2, .int .i64 k3], .int .i64 t] O H (fun v H' => v = .agg #[.int .i64 k0, .int .i64 k1, .int .i64 k2, .int .i64 t] ∧ Ext H H') := by
  refine fn_enter (A := [.agg #[.int .i64 k0, .int .i64 k1, .int .i64 k2, .int .i64 k3], .int .i64 t]) Try.func82 rfl rfl ?_
  have hX := Ext.refl H
  refine xc_seq ?_
  refine xc_region ?_
  refine xl_heavy rfl rfl rfl (hv_box rfl rfl) ?_
  rintro v0_0 H0_0 ⟨b0_0, rfl, hN0_0⟩
  have gb0_0 := hX.fresh hN0_0
  have hX := hX.trans hN0_0.ext
  have m0_0 := hN0_0.blk
  refine xl_heavy rfl rfl rfl (hv_alloc rfl rfl) ?_
  rintro v0_1 H0_1 ⟨b0_1, rfl, hN0_1⟩
  have gb0_1 := hX.fresh hN0_1
  have nm0_0_0_1 := m0_0.apart hN0_1
  have m0_0 := m0_0.ext hN0_1.ext
  have hX := hX.trans hN0_1.ext
  have m0_1 := hN0_1.blk
  refine xl_nil ?_
  refine xthen_normal ?_
  refine xc_seq ?_
  refine xc_region ?_
  refine xl_pure rfl rfl rfl (pv_move (v := .int _ _) rfl rfl) ?_
  refine xl_pure rfl rfl rfl (pv_fieldAddr rfl rfl) ?_
  refine xl_store rfl rfl (hv_store (vs := [.int _ _]) rfl rfl rfl (m0_0) rfl (Nat.le_of_ble_eq_true rfl) rfl) ?_
  rintro v1_2 H1_2 ⟨hU1_2, hZ1_2⟩
  have m0_1 := m0_1.off hU1_2.but (by first | exact nm0_0_0_1.symm | exact ⟨m0_1.ne m0_0 rfl⟩ | exact ⟨m0_1.ne m0_0 (by assumption)⟩ | exact ⟨Ne.symm (m0_0.ne m0_1 (by assumption))⟩)
  have hX := hX.upd hU1_2.but gb0_0
  have m0_0 := hU1_2.blk
  refine xl_nil ?_
  refine xthen_normal ?_
  refine xc_seq ?_
  refine xc_region ?_
  refine xl_light rfl rfl rfl (lv_load (v := .agg _) rfl rfl (ld_blk_a m0_0 rfl rfl)) ?_
  refine xl_store rfl rfl (hv_storeA (vs := [.int _ _, .int _ _, .int _ _, .int _ _]) rfl rfl rfl (m0_1) rfl (by rfl) rfl) ?_
  rintro v2_1 H2_1 ⟨hU2_1, hZ2_1⟩
  have m0_0 := m0_0.off hU2_1.but (by first | exact nm0_0_0_1 | exact ⟨m0_0.ne m0_1 rfl⟩ | exact ⟨m0_0.ne m0_1 (by assumption)⟩ | exact ⟨Ne.symm (m0_1.ne m0_0 (by assumption))⟩)
  have hX := hX.upd hU2_1.but gb0_1
  have m0_1 := hU2_1.blk
  refine xl_nil ?_
  refine xthen_normal ?_
  refine xc_ret ?_
  refine fin_ret (resv1 rfl (rv_c (ty := 37) rfl (ld_blk_a m0_1 rfl rfl))) ?_
  exact ⟨rfl, hX⟩

theorem c44 {O : Outer} {H : Heap} (k0 k1 k2 k3 : Int) :
    FnC Try.prog 44 #[.agg #[.int .i64 k0, .int .i64 k1, .int .i64 k2, .int .i64 k3]] O H (fun v H' => (IsB [k0, k1, k2, k3] ∧ v = .bool true ∨ ¬ IsB [k0, k1, k2, k3] ∧ v = .bool false) ∧ Ext H H') := by
  refine fn_enter (A := [.agg #[.int .i64 k0, .int .i64 k1, .int .i64 k2, .int .i64 k3]]) Try.func44 rfl rfl ?_
  have hX := Ext.refl H
  refine xc_seq ?_
  refine xc_region ?_
  refine xl_heavy rfl rfl rfl (hv_box rfl rfl) ?_
  rintro v0_0 H0_0 ⟨b0_0, rfl, hN0_0⟩
  have gb0_0 := hX.fresh hN0_0
  have hX := hX.trans hN0_0.ext
  have m0_0 := hN0_0.blk
  refine xl_pure rfl rfl rfl (pv_assign (v := .bool _) rfl rfl) ?_
  refine xl_nil ?_
  refine xthen_normal ?_
  refine xc_seq ?_
  refine xc_region ?_
  refine xl_pure rfl rfl rfl (pv_fieldAddr rfl rfl) ?_
  refine xl_light rfl rfl rfl (lv_load (v := .int _ _) rfl rfl (ld_blk m0_0 rfl)) ?_
  refine xl_heavy rfl rfl rfl (hv_call (g := 45) rfl rfl (c45 (k0) (0) (1099511627776)) rfl) ?_
  rintro v1_2 H1_2 ⟨hv1_2, rfl⟩
  rcases hv1_2 with ⟨hi1_2, rfl⟩ | ⟨hi1_2, rfl⟩
  · skip
    refine xl_pure rfl rfl rfl (pv_move (v := .bool _) rfl rfl) ?_
    refine xl_pure rfl rfl rfl (pv_fieldAddr rfl rfl) ?_
    refine xl_light rfl rfl rfl (lv_load (v := .int _ _) rfl rfl (ld_blk m0_0 rfl)) ?_
    refine xl_heavy rfl rfl rfl (hv_call (g := 45) rfl rfl (c45 (k1) (0) (4)) rfl) ?_
    rintro v1_6 H1_6 ⟨hv1_6, rfl⟩
    rcases hv1_6 with ⟨hi1_6, rfl⟩ | ⟨hi1_6, rfl⟩
    · skip
      refine xl_pure rfl rfl rfl (pv_pick_t (v := .bool _) rfl rfl rfl) ?_
      refine xl_pure rfl rfl rfl (pv_move (v := .bool _) rfl rfl) ?_
      refine xl_pure rfl rfl rfl (pv_fieldAddr rfl rfl) ?_
      refine xl_light rfl rfl rfl (lv_load (v := .int _ _) rfl rfl (ld_blk m0_0 rfl)) ?_
      refine xl_heavy rfl rfl rfl (hv_call (g := 45) rfl rfl (c45 (k2) (1) (8)) rfl) ?_
      rintro v1_11 H1_11 ⟨hv1_11, rfl⟩
      rcases hv1_11 with ⟨hi1_11, rfl⟩ | ⟨hi1_11, rfl⟩
      · skip
        refine xl_pure rfl rfl rfl (pv_pick_t (v := .bool _) rfl rfl rfl) ?_
        refine xl_pure rfl rfl rfl (pv_move (v := .bool _) rfl rfl) ?_
        refine xl_pure rfl rfl rfl (pv_fieldAddr rfl rfl) ?_
        refine xl_light rfl rfl rfl (lv_load (v := .int _ _) rfl rfl (ld_blk m0_0 rfl)) ?_
        refine xl_heavy rfl rfl rfl (hv_call (g := 45) rfl rfl (c45 (k3) (1) (32)) rfl) ?_
        rintro v1_16 H1_16 ⟨hv1_16, rfl⟩
        rcases hv1_16 with ⟨hi1_16, rfl⟩ | ⟨hi1_16, rfl⟩
        · skip
          refine xl_pure rfl rfl rfl (pv_pick_t (v := .bool _) rfl rfl rfl) ?_
          refine xl_pure rfl rfl rfl (pv_assign (v := .bool _) rfl rfl) ?_
          refine xl_nil ?_
          refine xthen_normal ?_
          refine xc_ret ?_
          refine fin_ret (res1 (v := .bool _) rfl rfl) ?_
          first
            | exact ⟨.inl ⟨by rw [isB_iff]; omega, rfl⟩, hX⟩
            | exact ⟨.inr ⟨by rw [isB_iff]; omega, rfl⟩, hX⟩
        · skip
          refine xl_pure rfl rfl rfl (pv_pick_t (v := .bool _) rfl rfl rfl) ?_
          refine xl_pure rfl rfl rfl (pv_assign (v := .bool _) rfl rfl) ?_
          refine xl_nil ?_
          refine xthen_normal ?_
          refine xc_ret ?_
          refine fin_ret (res1 (v := .bool _) rfl rfl) ?_
          first
            | exact ⟨.inl ⟨by rw [isB_iff]; omega, rfl⟩, hX⟩
            | exact ⟨.inr ⟨by rw [isB_iff]; omega, rfl⟩, hX⟩
      · skip
        refine xl_pure rfl rfl rfl (pv_pick_t (v := .bool _) rfl rfl rfl) ?_
        refine xl_pure rfl rfl rfl (pv_move (v := .bool _) rfl rfl) ?_
        refine xl_skip rfl rfl rfl ?_
        refine xl_skip rfl rfl rfl ?_
        refine xl_skip rfl rfl rfl ?_
        refine xl_pure rfl rfl rfl (pv_pick_f (v := .bool _) rfl rfl rfl) ?_
        refine xl_pure rfl rfl rfl (pv_assign (v := .bool _) rfl rfl) ?_
        refine xl_nil ?_
        refine xthen_normal ?_
        refine xc_ret ?_
        refine fin_ret (res1 (v := .bool _) rfl rfl) ?_
        first
          | exact ⟨.inl ⟨by rw [isB_iff]; omega, rfl⟩, hX⟩
          | exact ⟨.inr ⟨by rw [isB_iff]; omega, rfl⟩, hX⟩
    · skip
      refine xl_pure rfl rfl rfl (pv_pick_t (v := .bool _) rfl rfl rfl) ?_
      refine xl_pure rfl rfl rfl (pv_move (v := .bool _) rfl rfl) ?_
      refine xl_skip rfl rfl rfl ?_
      refine xl_skip rfl rfl rfl ?_
      refine xl_skip rfl rfl rfl ?_
      refine xl_pure rfl rfl rfl (pv_pick_f (v := .bool _) rfl rfl rfl) ?_
      refine xl_pure rfl rfl rfl (pv_move (v := .bool _) rfl rfl) ?_
      refine xl_skip rfl rfl rfl ?_
      refine xl_skip rfl rfl rfl ?_
      refine xl_skip rfl rfl rfl ?_
      refine xl_pure rfl rfl rfl (pv_pick_f (v := .bool _) rfl rfl rfl) ?_
      refine xl_pure rfl rfl rfl (pv_assign (v := .bool _) rfl rfl) ?_
      refine xl_nil ?_
      refine xthen_normal ?_
      refine xc_ret ?_
      refine fin_ret (res1 (v := .bool _) rfl rfl) ?_
      first
        | exact ⟨.inl ⟨by rw [isB_iff]; omega, rfl⟩, hX⟩
        | exact ⟨.inr ⟨by rw [isB_iff]; omega, rfl⟩, hX⟩
  · skip
    refine xl_pure rfl rfl rfl (pv_move (v := .bool _) rfl rfl) ?_
    refine xl_skip rfl rfl rfl ?_
    refine xl_skip rfl rfl rfl ?_
    refine xl_skip rfl rfl rfl ?_
    refine xl_pure rfl rfl rfl (pv_pick_f (v := .bool _) rfl rfl rfl) ?_
    refine xl_pure rfl rfl rfl (pv_move (v := .bool _) rfl rfl) ?_
    refine xl_skip rfl rfl rfl ?_
    refine xl_skip rfl rfl rfl ?_
    refine xl_skip rfl rfl rfl ?_
    refine xl_pure rfl rfl rfl (pv_pick_f (v := .bool _) rfl rfl rfl) ?_
    refine xl_pure rfl rfl rfl (pv_move (v := .bool _) rfl rfl) ?_
    refine xl_skip rfl rfl rfl ?_
    refine xl_skip rfl rfl rfl ?_
    refine xl_skip rfl rfl rfl ?_
    refine xl_pure rfl rfl rfl (pv_pick_f (v := .bool _) rfl rfl rfl) ?_
    refine xl_pure rfl rfl rfl (pv_assign (v := .bool _) rfl rfl) ?_
    refine xl_nil ?_
    refine xthen_normal ?_
    refine xc_ret ?_
    refine fin_ret (res1 (v := .bool _) rfl rfl) ?_
    first
      | exact ⟨.inl ⟨by rw [isB_iff]; omega, rfl⟩, hX⟩
      | exact ⟨.inr ⟨by rw [isB_iff]; omega, rfl⟩, hX⟩

theorem c43 {O : Outer} {H : Heap} {bp c : Nat} {a : Option Addr} {l : List (List Int)} {T : List Int} (mp : Blk H bp (.slice a (l).length c :: ints (T)) 87) (hR : RowsT H 138 5 a l) (hc : l.length ≤ c) (hna : a = none → c = 0) (hl : l.length < 1000000) (hs : Srt l) (hT : T.length = 33) (k0 k1 k2 k3 : Int) :
    FnC Try.prog 43 #[.pointer (some ⟨bp, 0, none⟩), .agg #[.int .i64 k0, .int .i64 k1, .int .i64 k2, .int .i64 k3]] O H (fun v H' => v = .int .i64 (qtyB l [k0, k1, k2, k3]) ∧ Ext H H') := by
  refine fn_enter (A := [.pointer (some ⟨bp, 0, none⟩), .agg #[.int .i64 k0, .int .i64 k1, .int .i64 k2, .int .i64 k3]]) Try.func43 rfl rfl ?_
  have hX := Ext.refl H
  refine xc_seq ?_
  refine xc_region ?_
  refine xl_heavy rfl rfl rfl (hv_box rfl rfl) ?_
  rintro v0_0 H0_0 ⟨b0_0, rfl, hN0_0⟩
  have gb0_0 := hX.fresh hN0_0
  have nmp_0_0 := mp.apart hN0_0
  have mp := mp.ext hN0_0.ext
  have hR := hR.ext hN0_0.ext
  have hX := hX.trans hN0_0.ext
  have m0_0 := hN0_0.blk
  refine xl_pure rfl rfl rfl (pv_assign (v := .int _ _) rfl rfl) ?_
  refine xl_nil ?_
  refine xthen_normal ?_
  refine xc_seq ?_
  refine xc_seq ?_
  refine xc_region ?_
  refine xl_pure rfl rfl rfl (pv_move (v := .pointer _) rfl rfl) ?_
  refine xl_pure rfl rfl rfl (pv_eql_pn rfl rfl rfl) ?_
  refine xl_nil ?_
  refine xthen_normal ?_
  refine xc_cond_f rfl ?_
  refine xc_skip ?_
  refine xthen_normal ?_
  refine xc_seq ?_
  refine xp_start rfl (by repeat (first | with_reducible exact np_fin | with_reducible exact np_ret | with_reducible refine np_then ?_ | with_reducible refine np_block ?_)) (by kernel_rfl) ?_
  refine xp_pure (i := 0) rfl (by kernel_rfl) (by kernel_rfl) rfl rfl rfl (pv_move (v := .pointer _) rfl rfl) ?_
  refine xp_pure (i := 1) rfl (by kernel_rfl) (by kernel_rfl) rfl rfl rfl (pv_nilCheck_p rfl rfl) ?_
  refine xp_pure (i := 2) rfl (by kernel_rfl) (by kernel_rfl) rfl rfl rfl (pv_fieldAddr rfl rfl) ?_
  refine xp_light (i := 3) rfl (by kernel_rfl) (by kernel_rfl) rfl rfl rfl (lv_load (v := .agg _) rfl rfl (ld_blk_a m0_0 rfl rfl)) ?_
  refine xp_heavy (i := 4) (by kernel_rfl) ?_
  refine xph_val rfl rfl rfl rfl (hv_call (g := 47) rfl rfl (c47 k0 k1 k2 k3) rfl) (pd (by kernel_rfl) pn) ?_
  rintro v3_4 H3_4 ⟨rfl, hE3_4⟩
  have mp := mp.ext hE3_4
  have hR := hR.ext hE3_4
  have m0_0 := m0_0.ext hE3_4
  have hX := hX.trans hE3_4
  refine ⟨okn, ?_⟩
  refine xp_heavy (i := 5) (by kernel_rfl) ?_
  refine xph_val rfl rfl rfl rfl (hv_call (g := 75) rfl rfl (c75 mp hR rfl hs hc hna (by omega) [k0, k1, k2, k3] rfl) rfl) pn ?_
  rintro v3_5 H3_5 ⟨rfl, hE3_5⟩
  have mp := mp.ext hE3_5
  have hR := hR.ext hE3_5
  have m0_0 := m0_0.ext hE3_5
  have hX := hX.trans hE3_5
  refine ⟨okn, ?_⟩
  refine xp_pure (i := 6) rfl (by kernel_rfl) (by kernel_rfl) rfl rfl rfl (pv_move (v := .tuple _) rfl rfl) ?_
  refine xp_pure (i := 7) rfl (by kernel_rfl) (by kernel_rfl) rfl rfl rfl (pv_extract (v := .int _ _) rfl rfl rfl) ?_
  refine xp_pure (i := 8) rfl (by kernel_rfl) (by kernel_rfl) rfl rfl rfl (pv_extract (v := .bool _) rfl rfl rfl) ?_
  refine xp_pure (i := 9) rfl (by kernel_rfl) (by kernel_rfl) rfl rfl rfl (pv_assign (v := .int _ _) rfl rfl) ?_
  refine xp_pure (i := 10) rfl (by kernel_rfl) (by kernel_rfl) rfl rfl rfl (pv_assign (v := .bool _) rfl rfl) ?_
  refine xp_done (by kernel_rfl) ?_
  refine xthen_normal ?_
  refine xc_seq ?_
  refine xc_region ?_
  refine xl_pure rfl rfl rfl (pv_move (v := .int _ _) rfl rfl) ?_
  refine xl_pure rfl rfl rfl (pv_assign (v := .int _ _) rfl rfl) ?_
  refine xl_nil ?_
  refine xthen_normal ?_
  refine xc_ret ?_
  refine fin_ret (res1 (v := .int _ _) rfl rfl) ?_
  exact ⟨rfl, hX⟩

theorem c74 {O : Outer} {H : Heap} {bp c : Nat} {a : Option Addr} {l : List (List Int)} {T : List Int} (mp : Blk H bp (.slice a (l).length c :: ints (T)) 87) (hR : RowsT H 138 5 a l) (hc : l.length ≤ c) (hna : a = none → c = 0) (hl : l.length < 1000000) (hs : Srt l) (hT : T.length = 33) (k0 k1 k2 k3 : Int) (n : Int) (hk3 : 1 ≤ k3 ∧ k3 ≤ 32) (h1 : -2305843009213693952 ≤ qtyB l [k0, k1, k2, k3] ∧ qtyB l [k0, k1, k2, k3] ≤ 2305843009213693952) (h2 : -2305843009213693952 ≤ n ∧ n ≤ 2305843009213693952) (h3 : -2305843009213693952 ≤ T.getD k3.toNat 0 ∧ T.getD k3.toNat 0 ≤ 2305843009213693952) :
    FnC Try.prog 74 #[.pointer (some ⟨bp, 0, none⟩), .agg #[.int .i64 k0, .int .i64 k1, .int .i64 k2, .int .i64 k3], .int .i64 n] O H (fun _ H' => ∃ a' c', But bp H H' ∧ Blk H' bp (.slice a' ((setB l [k0, k1, k2, k3] (qtyB l [k0, k1, k2, k3] + n))).length c' :: ints (T.set k3.toNat (T.getD k3.toNat 0 + n))) 87 ∧ RowsT H' 138 5 a' ((setB l [k0, k1, k2, k3] (qtyB l [k0, k1, k2, k3] + n))) ∧ ((setB l [k0, k1, k2, k3] (qtyB l [k0, k1, k2, k3] + n))).length ≤ c' ∧ (a' = none → c' = 0)) := by
  refine fn_enter (A := [.pointer (some ⟨bp, 0, none⟩), .agg #[.int .i64 k0, .int .i64 k1, .int .i64 k2, .int .i64 k3], .int .i64 n]) Try.func74 rfl rfl ?_
  have hX := But.refl bp H
  refine xc_seq ?_
  refine xc_region ?_
  refine xl_heavy rfl rfl rfl (hv_box rfl rfl) ?_
  rintro v0_0 H0_0 ⟨b0_0, rfl, hN0_0⟩
  have gb0_0 := hX.fresh hN0_0
  have nmp_0_0 := mp.apart hN0_0
  have mp := mp.ext hN0_0.ext
  have hR := hR.ext hN0_0.ext
  have hX := hX.transE hN0_0.ext
  have m0_0 := hN0_0.blk
  refine xl_nil ?_
  refine xthen_normal ?_
  refine xc_seq ?_
  refine xc_region ?_
  refine xl_pure rfl rfl rfl (pv_move (v := .pointer _) rfl rfl) ?_
  refine xl_light rfl rfl rfl (lv_load (v := .agg _) rfl rfl (ld_blk_a m0_0 rfl rfl)) ?_
  refine xl_heavy rfl rfl rfl (hv_call (g := 43) rfl rfl (c43 mp hR hc hna hl hs hT k0 k1 k2 k3) rfl) ?_
  rintro v1_2 H1_2 ⟨rfl, hE1_2⟩
  have mp := mp.ext hE1_2
  have hR := hR.ext hE1_2
  have m0_0 := m0_0.ext hE1_2
  have hX := hX.transE hE1_2
  refine xl_pure rfl rfl rfl (pv_move (v := .int _ _) rfl rfl) ?_
  refine xl_pure rfl rfl rfl (pv_add rfl rfl rfl (fit_i64 (by omega))) ?_
  refine xl_pure rfl rfl rfl (pv_assign (v := .int _ _) rfl rfl) ?_
  refine xl_nil ?_
  refine xthen_normal ?_
  refine xc_seq ?_
  refine xc_seq ?_
  refine xc_region ?_
  refine xl_pure rfl rfl rfl (pv_move (v := .int _ _) rfl rfl) ?_
  refine xl_dec rfl rfl rfl (pv_eql rfl rfl rfl) (fun h2_1 => ?_) (fun h2_1 => ?_)
  · skip
    refine xl_nil ?_
    refine xthen_normal ?_
    refine xc_cond_t rfl ?_
    refine xp_start rfl (by repeat (first | with_reducible exact np_fin | with_reducible exact np_ret | with_reducible refine np_then ?_ | with_reducible refine np_block ?_)) (by kernel_rfl) ?_
    refine xp_pure (i := 0) rfl (by kernel_rfl) (by kernel_rfl) rfl rfl rfl (pv_move (v := .pointer _) rfl rfl) ?_
    refine xp_pure (i := 1) rfl (by kernel_rfl) (by kernel_rfl) rfl rfl rfl (pv_nilCheck_p rfl rfl) ?_
    refine xp_pure (i := 2) rfl (by kernel_rfl) (by kernel_rfl) rfl rfl rfl (pv_fieldAddr rfl rfl) ?_
    refine xp_light (i := 3) rfl (by kernel_rfl) (by kernel_rfl) rfl rfl rfl (lv_load (v := .agg _) rfl rfl (ld_blk_a m0_0 rfl rfl)) ?_
    refine xp_heavy (i := 4) (by kernel_rfl) ?_
    refine xph_val rfl rfl rfl rfl (hv_call (g := 47) rfl rfl (c47 k0 k1 k2 k3) rfl) (pd (by kernel_rfl) pn) ?_
    rintro v3_4 H3_4 ⟨rfl, hE3_4⟩
    have mp := mp.ext hE3_4
    have hR := hR.ext hE3_4
    have m0_0 := m0_0.ext hE3_4
    have hX := hX.transE hE3_4
    refine ⟨okn, ?_⟩
    refine xp_heavy (i := 5) (by kernel_rfl) ?_
    refine xph_val rfl rfl rfl rfl (hv_call (g := 95) rfl rfl (c95 mp hR rfl hs hc hna (by omega) [k0, k1, k2, k3] rfl) rfl) pn ?_
    rintro v3_5 H3_5 ⟨a3_5, c3_5, hv3_5, hU3_5, hR3_5, hc3_5, hna3_5⟩
    have hR := hR.offT mp hU3_5.but (by first | rfl | assumption)
    have m0_0 := m0_0.off hU3_5.but (by first | exact nmp_0_0.symm | exact ⟨m0_0.ne mp rfl⟩ | exact ⟨m0_0.ne mp (by assumption)⟩ | exact ⟨Ne.symm (mp.ne m0_0 (by assumption))⟩)
    have hX := hX.trans hU3_5.but
    have mp := hU3_5.blk
    have es : (setB l [k0, k1, k2, k3] (qtyB l [k0, k1, k2, k3] + n)) = delR l [k0, k1, k2, k3] := if_pos h2_1
    rw [← es] at mp hR3_5 hc3_5
    have hRn := hR3_5; have hcn := hc3_5; have hnan := hna3_5
    refine ⟨okn, ?_⟩
    refine xp_done (by kernel_rfl) ?_
    refine xthen_normal ?_
    refine xp_start rfl (by repeat (first | with_reducible exact np_fin | with_reducible exact np_ret | with_reducible refine np_then ?_ | with_reducible refine np_block ?_)) (by kernel_rfl) ?_
    refine xp_pure (i := 0) rfl (by kernel_rfl) (by kernel_rfl) rfl rfl rfl (pv_move (v := .pointer _) rfl rfl) ?_
    refine xp_pure (i := 1) rfl (by kernel_rfl) (by kernel_rfl) rfl rfl rfl (pv_fieldAddr rfl rfl) ?_
    refine xp_light (i := 2) rfl (by kernel_rfl) (by kernel_rfl) rfl rfl rfl (lv_load (v := .int _ _) rfl rfl (ld_blk m0_0 rfl)) ?_
    refine xp_pure (i := 3) rfl (by kernel_rfl) (by kernel_rfl) rfl rfl rfl (pv_nilCheck_p rfl rfl) ?_
    refine xp_pure (i := 4) rfl (by kernel_rfl) (by kernel_rfl) rfl rfl rfl (pv_fieldAddr rfl rfl) ?_
    refine xp_pure (i := 5) rfl (by kernel_rfl) (by kernel_rfl) rfl rfl rfl (pv_indexAddr_a rfl rfl rfl (by omega)) ?_
    refine xp_light (i := 6) rfl (by kernel_rfl) (by kernel_rfl) rfl rfl rfl (lv_load (v := .int _ _) rfl rfl (by exact ld_tot mp (by omega))) ?_
    refine xp_pure (i := 7) rfl (by kernel_rfl) (by kernel_rfl) rfl rfl rfl (pv_move (v := .int _ _) rfl rfl) ?_
    refine xp_pure (i := 8) rfl (by kernel_rfl) (by kernel_rfl) rfl rfl rfl (pv_add rfl rfl rfl (fit_i64 (by omega))) ?_
    refine xp_pure (i := 9) rfl (by kernel_rfl) (by kernel_rfl) rfl rfl rfl (pv_nilCheck_p rfl rfl) ?_
    refine xp_pure (i := 10) rfl (by kernel_rfl) (by kernel_rfl) rfl rfl rfl (pv_fieldAddr rfl rfl) ?_
    refine xp_pure (i := 11) rfl (by kernel_rfl) (by kernel_rfl) rfl rfl rfl (pv_indexAddr_a rfl rfl rfl (by omega)) ?_
    refine xp_heavy (i := 12) (by kernel_rfl) ?_
    refine xph_store rfl rfl rfl (hv_store (vs := [.int .i64 (T.getD k3.toNat 0 + n)]) rfl rfl rfl (mp) rfl (by simp [ints, hT]; omega) rfl) (pd (by kernel_rfl) (pd (by kernel_rfl) pn)) ?_
    rintro v5_12 H5_12 ⟨hU5_12, hZ5_12⟩
    have hR := hR.offT mp hU5_12.but (by first | rfl | assumption)
    have m0_0 := m0_0.off hU5_12.but (by first | exact nmp_0_0.symm | exact ⟨m0_0.ne mp rfl⟩ | exact ⟨m0_0.ne mp (by assumption)⟩ | exact ⟨Ne.symm (mp.ne m0_0 (by assumption))⟩)
    have hR3_5 := hR3_5.offT mp hU5_12.but (by first | rfl | assumption)
    have hX := hX.trans hU5_12.but
    have mp := hU5_12.blk
    rw [Nat.mul_one, set_tot (by omega)] at mp
    refine ⟨okn, ?_⟩
    refine xp_done (by kernel_rfl) ?_
    refine fin_normal (res0 rfl) ?_
    first
      | exact ⟨_, _, hX, mp, hR3_5, hc3_5, hna3_5⟩
      | exact ⟨_, _, hX, mp, hR4_6, hc4_6, hna4_6⟩
  · skip
    refine xl_nil ?_
    refine xthen_normal ?_
    refine xc_cond_f rfl ?_
    refine xp_start rfl (by repeat (first | with_reducible exact np_fin | with_reducible exact np_ret | with_reducible refine np_then ?_ | with_reducible refine np_block ?_)) (by kernel_rfl) ?_
    refine xp_pure (i := 0) rfl (by kernel_rfl) (by kernel_rfl) rfl rfl rfl (pv_move (v := .pointer _) rfl rfl) ?_
    refine xp_pure (i := 1) rfl (by kernel_rfl) (by kernel_rfl) rfl rfl rfl (pv_nilCheck_p rfl rfl) ?_
    refine xp_pure (i := 2) rfl (by kernel_rfl) (by kernel_rfl) rfl rfl rfl (pv_fieldAddr rfl rfl) ?_
    refine xp_light (i := 3) rfl (by kernel_rfl) (by kernel_rfl) rfl rfl rfl (lv_load (v := .agg _) rfl rfl (ld_blk_a m0_0 rfl rfl)) ?_
    refine xp_pure (i := 5) rfl (by kernel_rfl) (by kernel_rfl) rfl rfl rfl (pv_move (v := .int _ _) rfl rfl) ?_
    refine xp_heavy (i := 4) (by kernel_rfl) ?_
    refine xph_val rfl rfl rfl rfl (hv_call (g := 47) rfl rfl (c47 k0 k1 k2 k3) rfl) (pd (by kernel_rfl) pn) ?_
    rintro v4_4 H4_4 ⟨rfl, hE4_4⟩
    have mp := mp.ext hE4_4
    have hR := hR.ext hE4_4
    have m0_0 := m0_0.ext hE4_4
    have hX := hX.transE hE4_4
    refine ⟨okn, ?_⟩
    refine xp_heavy (i := 6) (by kernel_rfl) ?_
    refine xph_val rfl rfl rfl rfl (hv_call (g := 46) rfl rfl (c46 mp hR rfl hs hc hna (by omega) [k0, k1, k2, k3] rfl (qtyB l [k0, k1, k2, k3] + n)) rfl) pn ?_
    rintro v4_6 H4_6 ⟨a4_6, c4_6, hv4_6, hU4_6, hR4_6, hc4_6, hna4_6⟩
    have hR := hR.offT mp hU4_6.but (by first | rfl | assumption)
    have m0_0 := m0_0.off hU4_6.but (by first | exact nmp_0_0.symm | exact ⟨m0_0.ne mp rfl⟩ | exact ⟨m0_0.ne mp (by assumption)⟩ | exact ⟨Ne.symm (mp.ne m0_0 (by assumption))⟩)
    have hX := hX.trans hU4_6.but
    have mp := hU4_6.blk
    have es : (setB l [k0, k1, k2, k3] (qtyB l [k0, k1, k2, k3] + n)) = putR l ([k0, k1, k2, k3] ++ [qtyB l [k0, k1, k2, k3] + n]) := if_neg h2_1
    rw [← es] at mp hR4_6 hc4_6
    have hRn := hR4_6; have hcn := hc4_6; have hnan := hna4_6
    refine ⟨okn, ?_⟩
    refine xp_done (by kernel_rfl) ?_
    refine xthen_normal ?_
    refine xp_start rfl (by repeat (first | with_reducible exact np_fin | with_reducible exact np_ret | with_reducible refine np_then ?_ | with_reducible refine np_block ?_)) (by kernel_rfl) ?_
    refine xp_pure (i := 0) rfl (by kernel_rfl) (by kernel_rfl) rfl rfl rfl (pv_move (v := .pointer _) rfl rfl) ?_
    refine xp_pure (i := 1) rfl (by kernel_rfl) (by kernel_rfl) rfl rfl rfl (pv_fieldAddr rfl rfl) ?_
    refine xp_light (i := 2) rfl (by kernel_rfl) (by kernel_rfl) rfl rfl rfl (lv_load (v := .int _ _) rfl rfl (ld_blk m0_0 rfl)) ?_
    refine xp_pure (i := 3) rfl (by kernel_rfl) (by kernel_rfl) rfl rfl rfl (pv_nilCheck_p rfl rfl) ?_
    refine xp_pure (i := 4) rfl (by kernel_rfl) (by kernel_rfl) rfl rfl rfl (pv_fieldAddr rfl rfl) ?_
    refine xp_pure (i := 5) rfl (by kernel_rfl) (by kernel_rfl) rfl rfl rfl (pv_indexAddr_a rfl rfl rfl (by omega)) ?_
    refine xp_light (i := 6) rfl (by kernel_rfl) (by kernel_rfl) rfl rfl rfl (lv_load (v := .int _ _) rfl rfl (by exact ld_tot mp (by omega))) ?_
    refine xp_pure (i := 7) rfl (by kernel_rfl) (by kernel_rfl) rfl rfl rfl (pv_move (v := .int _ _) rfl rfl) ?_
    refine xp_pure (i := 8) rfl (by kernel_rfl) (by kernel_rfl) rfl rfl rfl (pv_add rfl rfl rfl (fit_i64 (by omega))) ?_
    refine xp_pure (i := 9) rfl (by kernel_rfl) (by kernel_rfl) rfl rfl rfl (pv_nilCheck_p rfl rfl) ?_
    refine xp_pure (i := 10) rfl (by kernel_rfl) (by kernel_rfl) rfl rfl rfl (pv_fieldAddr rfl rfl) ?_
    refine xp_pure (i := 11) rfl (by kernel_rfl) (by kernel_rfl) rfl rfl rfl (pv_indexAddr_a rfl rfl rfl (by omega)) ?_
    refine xp_heavy (i := 12) (by kernel_rfl) ?_
    refine xph_store rfl rfl rfl (hv_store (vs := [.int .i64 (T.getD k3.toNat 0 + n)]) rfl rfl rfl (mp) rfl (by simp [ints, hT]; omega) rfl) (pd (by kernel_rfl) (pd (by kernel_rfl) pn)) ?_
    rintro v5_12 H5_12 ⟨hU5_12, hZ5_12⟩
    have hR := hR.offT mp hU5_12.but (by first | rfl | assumption)
    have m0_0 := m0_0.off hU5_12.but (by first | exact nmp_0_0.symm | exact ⟨m0_0.ne mp rfl⟩ | exact ⟨m0_0.ne mp (by assumption)⟩ | exact ⟨Ne.symm (mp.ne m0_0 (by assumption))⟩)
    have hR4_6 := hR4_6.offT mp hU5_12.but (by first | rfl | assumption)
    have hX := hX.trans hU5_12.but
    have mp := hU5_12.blk
    rw [Nat.mul_one, set_tot (by omega)] at mp
    refine ⟨okn, ?_⟩
    refine xp_done (by kernel_rfl) ?_
    refine fin_normal (res0 rfl) ?_
    first
      | exact ⟨_, _, hX, mp, hR3_5, hc3_5, hna3_5⟩
      | exact ⟨_, _, hX, mp, hR4_6, hc4_6, hna4_6⟩

theorem c60 {O : Outer} {H : Heap} {bp c : Nat} {a : Option Addr} {l : List (List Int)} {T : List Int} (mp : Blk H bp (.slice a (l).length c :: ints (T)) 87) (hR : RowsT H 138 5 a l) (hc : l.length ≤ c) (hna : a = none → c = 0) (hl : l.length < 1000000) (hs : Srt l) (hT : T.length = 33) :
    FnC Try.prog 60 #[.pointer (some ⟨bp, 0, none⟩)] O H (fun v H' => ∃ b, v = .pointer (some ⟨b, 0, none⟩) ∧ Blk H' b (.slice a (l).length c :: ints (T)) 87 ∧ Fresh H b ∧ Ext H H') := by
  refine fn_enter (A := [.pointer (some ⟨bp, 0, none⟩)]) Try.func60 rfl rfl ?_
  have hX := Ext.refl H
  refine xc_seq ?_
  refine xc_region ?_
  refine xl_pure rfl rfl rfl (pv_assign (v := .pointer _) rfl rfl) ?_
  refine xl_nil ?_
  refine xthen_normal ?_
  refine xc_seq ?_
  refine xc_seq ?_
  refine xc_region ?_
  refine xl_pure rfl rfl rfl (pv_move (v := .pointer _) rfl rfl) ?_
  refine xl_pure rfl rfl rfl (pv_eql_pn rfl rfl rfl) ?_
  refine xl_nil ?_
  refine xthen_normal ?_
  refine xc_cond_f rfl ?_
  refine xc_skip ?_
  refine xthen_normal ?_
  refine xc_seq ?_
  refine xc_region ?_
  refine xl_pure rfl rfl rfl (pv_move (v := .pointer _) rfl rfl) ?_
  refine xl_pure rfl rfl rfl (pv_nilCheck_p rfl rfl) ?_
  refine xl_light rfl rfl rfl (lv_load (v := .agg _) rfl rfl (by exact ld_bins mp hT)) ?_
  refine xl_heavy rfl rfl rfl (hv_alloc rfl rfl) ?_
  rintro v3_3 H3_3 ⟨b3_3, rfl, hN3_3⟩
  have gb3_3 := hX.fresh hN3_3
  have nmp_3_3 := mp.apart hN3_3
  have mp := mp.ext hN3_3.ext
  have hR := hR.ext hN3_3.ext
  have hX := hX.trans hN3_3.ext
  have m3_3 := hN3_3.blk
  refine xl_store rfl rfl (hv_storeA (vs := (.slice a (l).length c :: ints (T))) rfl rfl rfl (m3_3) (bins_len hT) (by rfl) bins_one) ?_
  rintro v3_4 H3_4 ⟨hU3_4, hZ3_4⟩
  have mp := mp.off hU3_4.but (by first | exact nmp_3_3 | exact ⟨mp.ne m3_3 rfl⟩ | exact ⟨mp.ne m3_3 (by assumption)⟩ | exact ⟨Ne.symm (m3_3.ne mp (by assumption))⟩)
  have hR := hR.offT m3_3 hU3_4.but (by first | rfl | assumption)
  have hX := hX.upd hU3_4.but gb3_3
  have m3_3 := hU3_4.blk
  refine xl_nil ?_
  refine xthen_normal ?_
  refine xc_seq ?_
  refine xc_region ?_
  refine xl_pure rfl rfl rfl (pv_assign (v := .pointer _) rfl rfl) ?_
  refine xl_nil ?_
  refine xthen_normal ?_
  refine xc_ret ?_
  refine fin_ret (res1 (v := .pointer _) rfl rfl) ?_
  exact ⟨_, rfl, m3_3, gb3_3, hX⟩
end Go.XG
