/-
  Walks of the seat's functions over the logic XG: each function, what it computes. Printed by a program out of wip/walks.py.
-/
import Derived.Test.YtjlhjjjhblcokaaI
import Derived.Test.YtjlhjjjhblcokaaXs
import Derived.Test.YtjlhjjjhblcokaaTo
import Derived.Test.YtjlhjjjhblcokaaTa
import Derived.Test.YtjlhjjjhblcokaaTb
import Derived.Test.YtjlhjjjhblcokaaKb
namespace Go.XG
open Go.Proofs
set_option maxRecDepth 20000
set_option maxHeartbeats 4000000
theorem c45 {O : Outer} {H : Heap} (n f t : Int) :
    FnC Try.prog 45 #[.int .i64 n, .int .i64 f, .int .i64 t] O H (fun v H' => ((f ≤ n ∧ n ≤ t) ∧ v = .bool true ∨ ¬ (f ≤ n ∧ n ≤ t) ∧ v = .bool false) ∧ H = H') := by
  refine fn_enter (A := [.int .i64 n, .int .i64 f, .int .i64 t]) Try.func45 rfl rfl ?_
  have hX := Ext.refl H
  refine xc_seq ?_
  refine xc_region ?_
  refine xl_pure rfl rfl rfl (pv_assign (v := .bool _) rfl rfl) ?_
  refine xl_nil ?_
  refine xthen_normal ?_
  refine xc_seq ?_
  refine xc_region ?_
  refine xl_pure rfl rfl rfl (pv_move (v := .int _ _) rfl rfl) ?_
  refine xl_pure rfl rfl rfl (pv_move (v := .int _ _) rfl rfl) ?_
  refine xl_dec rfl rfl rfl (pv_geq rfl rfl rfl) (fun h1_2 => ?_) (fun h1_2 => ?_)
  · skip
    refine xl_pure rfl rfl rfl (pv_move (v := .bool _) rfl rfl) ?_
    refine xl_pure rfl rfl rfl (pv_move (v := .int _ _) rfl rfl) ?_
    refine xl_pure rfl rfl rfl (pv_move (v := .int _ _) rfl rfl) ?_
    refine xl_dec rfl rfl rfl (pv_leq rfl rfl rfl) (fun h1_6 => ?_) (fun h1_6 => ?_)
    · skip
      refine xl_pure rfl rfl rfl (pv_pick_t (v := .bool _) rfl rfl rfl) ?_
      refine xl_pure rfl rfl rfl (pv_assign (v := .bool _) rfl rfl) ?_
      refine xl_nil ?_
      refine xthen_normal ?_
      refine xc_ret ?_
      refine fin_ret (res1 (v := .bool _) rfl rfl) ?_
      first
        | exact ⟨.inl ⟨by omega, rfl⟩, rfl⟩
        | exact ⟨.inr ⟨by omega, rfl⟩, rfl⟩
    · skip
      refine xl_pure rfl rfl rfl (pv_pick_t (v := .bool _) rfl rfl rfl) ?_
      refine xl_pure rfl rfl rfl (pv_assign (v := .bool _) rfl rfl) ?_
      refine xl_nil ?_
      refine xthen_normal ?_
      refine xc_ret ?_
      refine fin_ret (res1 (v := .bool _) rfl rfl) ?_
      first
        | exact ⟨.inl ⟨by omega, rfl⟩, rfl⟩
        | exact ⟨.inr ⟨by omega, rfl⟩, rfl⟩
  · skip
    refine xl_pure rfl rfl rfl (pv_move (v := .bool _) rfl rfl) ?_
    refine xl_skip rfl rfl rfl ?_
    refine xl_skip rfl rfl rfl ?_
    refine xl_skip rfl rfl rfl ?_
    refine xl_pure rfl rfl rfl (pv_pick_f (v := .bool _) rfl rfl rfl) ?_
    refine xl_pure rfl rfl rfl (pv_assign (v := .bool _) rfl rfl) ?_
    refine xl_nil ?_
    refine xthen_normal ?_
    refine xc_ret ?_
    refine fin_ret (res1 (v := .bool _) rfl rfl) ?_
    first
      | exact ⟨.inl ⟨by omega, rfl⟩, rfl⟩
      | exact ⟨.inr ⟨by omega, rfl⟩, rfl⟩

theorem c47 {O : Outer} {H : Heap} (k0 k1 k2 k3 : Int) :
    FnC Try.prog 47 #[.agg #[.int .i64 k0, .int .i64 k1, .int .i64 k2, .int .i64 k3]] O H (fun v H' => v = .agg #[.int .i64 k0, .int .i64 k1, .int .i64 k2, .int .i64 k3] ∧ Ext H H') := by
  refine fn_enter (A := [.agg #[.int .i64 k0, .int .i64 k1, .int .i64 k2, .int .i64 k3]]) Try.func47 rfl rfl ?_
  have hX := Ext.refl H
  refine xc_seq ?_
  refine xc_region ?_
  refine xl_heavy rfl rfl rfl (hv_box rfl rfl) ?_
  rintro v0_0 H0_0 ⟨b0_0, rfl, hN0_0⟩
  have gb0_0 := hX.fresh hN0_0
  have hX := hX.trans hN0_0.ext
  have m0_0 := hN0_0.blk
  refine xl_heavy rfl rfl rfl (hv_alloc rfl rfl) ?_
  rintro v0_1 H0_1 ⟨b0_1, rfl, hN0_1⟩
  have gb0_1 := hX.fresh hN0_1
  have nm0_0_0_1 := m0_0.apart hN0_1
  have m0_0 := m0_0.ext hN0_1.ext
  have hX := hX.trans hN0_1.ext
  have m0_1 := hN0_1.blk
  refine xl_nil ?_
  refine xthen_normal ?_
  refine xc_seq ?_
  refine xc_region ?_
  refine xl_pure rfl rfl rfl (pv_fieldAddr rfl rfl) ?_
  refine xl_light rfl rfl rfl (lv_load (v := .int _ _) rfl rfl (ld_blk m0_0 rfl)) ?_
  refine xl_pure rfl rfl rfl (pv_fieldAddr rfl rfl) ?_
  refine xl_light rfl rfl rfl (lv_load (v := .int _ _) rfl rfl (ld_blk m0_0 rfl)) ?_
  refine xl_pure rfl rfl rfl (pv_fieldAddr rfl rfl) ?_
  refine xl_light rfl rfl rfl (lv_load (v := .int _ _) rfl rfl (ld_blk m0_0 rfl)) ?_
  refine xl_pure rfl rfl rfl (pv_fieldAddr rfl rfl) ?_
  refine xl_light rfl rfl rfl (lv_load (v := .int _ _) rfl rfl (ld_blk m0_0 rfl)) ?_
  refine xl_pure rfl rfl rfl (pv_build_a (cs := [.int _ _, .int _ _, .int _ _, .int _ _]) rfl rfl rfl) ?_
  refine xl_store rfl rfl (hv_storeA (vs := [.int _ _, .int _ _, .int _ _, .int _ _]) rfl rfl rfl (m0_1) rfl (by rfl) rfl) ?_
  rintro v1_9 H1_9 ⟨hU1_9, hZ1_9⟩
  have m0_0 := m0_0.off hU1_9.but (by first | exact nm0_0_0_1 | exact ⟨m0_0.ne m0_1 rfl⟩ | exact ⟨m0_0.ne m0_1 (by assumption)⟩ | exact ⟨Ne.symm (m0_1.ne m0_0 (by assumption))⟩)
  have hX := hX.upd hU1_9.but gb0_1
  have m0_1 := hU1_9.blk
  refine xl_nil ?_
  refine xthen_normal ?_
  refine xc_ret ?_
  refine fin_ret (resv1 rfl (rv_c (ty := 103) rfl (ld_blk_a m0_1 rfl rfl))) ?_
  exact ⟨rfl, hX⟩

theorem c82 {O : Outer} {H : Heap} (k0 k1 k2 k3 : Int) (t : Int) :
    FnC Try.prog 82 #[.agg #[.int .i64 k0, .int .i64 k1, .int .i64 k2, .int .i64 k3], .int .i64 t] O H (fun v H' => v = .agg #[.int .i64 k0, .int .i64 k1, .int .i64 k2, .int .i64 t] ∧ Ext H H') := by
  refine fn_enter (A := [.agg #[.int .i64 k0, .int .i64 k1, .int .i64 k2, .int .i64 k3], .int .i64 t]) Try.func82 rfl rfl ?_
  have hX := Ext.refl H
  refine xc_seq ?_
  refine xc_region ?_
  refine xl_heavy rfl rfl rfl (hv_box rfl rfl) ?_
  rintro v0_0 H0_0 ⟨b0_0, rfl, hN0_0⟩
  have gb0_0 := hX.fresh hN0_0
  have hX := hX.trans hN0_0.ext
  have m0_0 := hN0_0.blk
  refine xl_heavy rfl rfl rfl (hv_alloc rfl rfl) ?_
  rintro v0_1 H0_1 ⟨b0_1, rfl, hN0_1⟩
  have gb0_1 := hX.fresh hN0_1
  have nm0_0_0_1 := m0_0.apart hN0_1
  have m0_0 := m0_0.ext hN0_1.ext
  have hX := hX.trans hN0_1.ext
  have m0_1 := hN0_1.blk
  refine xl_nil ?_
  refine xthen_normal ?_
  refine xc_seq ?_
  refine xc_region ?_
  refine xl_pure rfl rfl rfl (pv_move (v := .int _ _) rfl rfl) ?_
  refine xl_pure rfl rfl rfl (pv_fieldAddr rfl rfl) ?_
  refine xl_store rfl rfl (hv_store (vs := [.int _ _]) rfl rfl rfl (m0_0) rfl (Nat.le_of_ble_eq_true rfl) rfl) ?_
  rintro v1_2 H1_2 ⟨hU1_2, hZ1_2⟩
  have m0_1 := m0_1.off hU1_2.but (by first | exact nm0_0_0_1.symm | exact ⟨m0_1.ne m0_0 rfl⟩ | exact ⟨m0_1.ne m0_0 (by assumption)⟩ | exact ⟨Ne.symm (m0_0.ne m0_1 (by assumption))⟩)
  have hX := hX.upd hU1_2.but gb0_0
  have m0_0 := hU1_2.blk
  refine xl_nil ?_
  refine xthen_normal ?_
  refine xc_seq ?_
  refine xc_region ?_
  refine xl_light rfl rfl rfl (lv_load (v := .agg _) rfl rfl (ld_blk_a m0_0 rfl rfl)) ?_
  refine xl_store rfl rfl (hv_storeA (vs := [.int _ _, .int _ _, .int _ _, .int _ _]) rfl rfl rfl (m0_1) rfl (by rfl) rfl) ?_
  rintro v2_1 H2_1 ⟨hU2_1, hZ2_1⟩
  have m0_0 := m0_0.off hU2_1.but (by first | exact nm0_0_0_1 | exact ⟨m0_0.ne m0_1 rfl⟩ | exact ⟨m0_0.ne m0_1 (by assumption)⟩ | exact ⟨Ne.symm (m0_1.ne m0_0 (by assumption))⟩)
  have hX := hX.upd hU2_1.but gb0_1
  have m0_1 := hU2_1.blk
  refine xl_nil ?_
  refine xthen_normal ?_
  refine xc_ret ?_
  refine fin_ret (resv1 rfl (rv_c (ty := 37) rfl (ld_blk_a m0_1 rfl rfl))) ?_
  exact ⟨rfl, hX⟩

theorem c44 {O : Outer} {H : Heap} (k0 k1 k2 k3 : Int) :
    FnC Try.prog 44 #[.agg #[.int .i64 k0, .int .i64 k1, .int .i64 k2, .int .i64 k3]] O H (fun v H' => (IsB [k0, k1, k2, k3] ∧ v = .bool true ∨ ¬ IsB [k0, k1, k2, k3] ∧ v = .bool false) ∧ Ext H H') := by
  refine fn_enter (A := [.agg #[.int .i64 k0, .int .i64 k1, .int .i64 k2, .int .i64 k3]]) Try.func44 rfl rfl ?_
  have hX := Ext.refl H
  refine xc_seq ?_
  refine xc_region ?_
  refine xl_heavy rfl rfl rfl (hv_box rfl rfl) ?_
  rintro v0_0 H0_0 ⟨b0_0, rfl, hN0_0⟩
  have gb0_0 := hX.fresh hN0_0
  have hX := hX.trans hN0_0.ext
  have m0_0 := hN0_0.blk
  refine xl_pure rfl rfl rfl (pv_assign (v := .bool _) rfl rfl) ?_
  refine xl_nil ?_
  refine xthen_normal ?_
  refine xc_seq ?_
  refine xc_region ?_
  refine xl_pure rfl rfl rfl (pv_fieldAddr rfl rfl) ?_
  refine xl_light rfl rfl rfl (lv_load (v := .int _ _) rfl rfl (ld_blk m0_0 rfl)) ?_
  refine xl_heavy rfl rfl rfl (hv_call (g := 45) rfl rfl (c45 (k0) (0) (1099511627776)) rfl) ?_
  rintro v1_2 H1_2 ⟨hv1_2, rfl⟩
  rcases hv1_2 with ⟨hi1_2, rfl⟩ | ⟨hi1_2, rfl⟩
  · skip
    refine xl_pure rfl rfl rfl (pv_move (v := .bool _) rfl rfl) ?_
    refine xl_pure rfl rfl rfl (pv_fieldAddr rfl rfl) ?_
    refine xl_light rfl rfl rfl (lv_load (v := .int _ _) rfl rfl (ld_blk m0_0 rfl)) ?_
    refine xl_heavy rfl rfl rfl (hv_call (g := 45) rfl rfl (c45 (k1) (0) (4)) rfl) ?_
    rintro v1_6 H1_6 ⟨hv1_6, rfl⟩
    rcases hv1_6 with ⟨hi1_6, rfl⟩ | ⟨hi1_6, rfl⟩
    · skip
      refine xl_pure rfl rfl rfl (pv_pick_t (v := .bool _) rfl rfl rfl) ?_
      refine xl_pure rfl rfl rfl (pv_move (v := .bool _) rfl rfl) ?_
      refine xl_pure rfl rfl rfl (pv_fieldAddr rfl rfl) ?_
      refine xl_light rfl rfl rfl (lv_load (v := .int _ _) rfl rfl (ld_blk m0_0 rfl)) ?_
      refine xl_heavy rfl rfl rfl (hv_call (g := 45) rfl rfl (c45 (k2) (1) (8)) rfl) ?_
      rintro v1_11 H1_11 ⟨hv1_11, rfl⟩
      rcases hv1_11 with ⟨hi1_11, rfl⟩ | ⟨hi1_11, rfl⟩
      · skip
        refine xl_pure rfl rfl rfl (pv_pick_t (v := .bool _) rfl rfl rfl) ?_
        refine xl_pure rfl rfl rfl (pv_move (v := .bool _) rfl rfl) ?_
        refine xl_pure rfl rfl rfl (pv_fieldAddr rfl rfl) ?_
        refine xl_light rfl rfl rfl (lv_load (v := .int _ _) rfl rfl (ld_blk m0_0 rfl)) ?_
        refine xl_heavy rfl rfl rfl (hv_call (g := 45) rfl rfl (c45 (k3) (1) (32)) rfl) ?_
        rintro v1_16 H1_16 ⟨hv1_16, rfl⟩
        rcases hv1_16 with ⟨hi1_16, rfl⟩ | ⟨hi1_16, rfl⟩
        · skip
          refine xl_pure rfl rfl rfl (pv_pick_t (v := .bool _) rfl rfl rfl) ?_
          refine xl_pure rfl rfl rfl (pv_assign (v := .bool _) rfl rfl) ?_
          refine xl_nil ?_
          refine xthen_normal ?_
          refine xc_ret ?_
          refine fin_ret (res1 (v := .bool _) rfl rfl) ?_
          first
            | exact ⟨.inl ⟨by rw [isB_iff]; omega, rfl⟩, hX⟩
            | exact ⟨.inr ⟨by rw [isB_iff]; omega, rfl⟩, hX⟩
        · skip
          refine xl_pure rfl rfl rfl (pv_pick_t (v := .bool _) rfl rfl rfl) ?_
          refine xl_pure rfl rfl rfl (pv_assign (v := .bool _) rfl rfl) ?_
          refine xl_nil ?_
          refine xthen_normal ?_
          refine xc_ret ?_
          refine fin_ret (res1 (v := .bool _) rfl rfl) ?_
          first
            | exact ⟨.inl ⟨by rw [isB_iff]; omega, rfl⟩, hX⟩
            | exact ⟨.inr ⟨by rw [isB_iff]; omega, rfl⟩, hX⟩
      · skip
        refine xl_pure rfl rfl rfl (pv_pick_t (v := .bool _) rfl rfl rfl) ?_
        refine xl_pure rfl rfl rfl (pv_move (v := .bool _) rfl rfl) ?_
        refine xl_skip rfl rfl rfl ?_
        refine xl_skip rfl rfl rfl ?_
        refine xl_skip rfl rfl rfl ?_
        refine xl_pure rfl rfl rfl (pv_pick_f (v := .bool _) rfl rfl rfl) ?_
        refine xl_pure rfl rfl rfl (pv_assign (v := .bool _) rfl rfl) ?_
        refine xl_nil ?_
        refine xthen_normal ?_
        refine xc_ret ?_
        refine fin_ret (res1 (v := .bool _) rfl rfl) ?_
        first
          | exact ⟨.inl ⟨by rw [isB_iff]; omega, rfl⟩, hX⟩
          | exact ⟨.inr ⟨by rw [isB_iff]; omega, rfl⟩, hX⟩
    · skip
      refine xl_pure rfl rfl rfl (pv_pick_t (v := .bool _) rfl rfl rfl) ?_
      refine xl_pure rfl rfl rfl (pv_move (v := .bool _) rfl rfl) ?_
      refine xl_skip rfl rfl rfl ?_
      refine xl_skip rfl rfl rfl ?_
      refine xl_skip rfl rfl rfl ?_
      refine xl_pure rfl rfl rfl (pv_pick_f (v := .bool _) rfl rfl rfl) ?_
      refine xl_pure rfl rfl rfl (pv_move (v := .bool _) rfl rfl) ?_
      refine xl_skip rfl rfl rfl ?_
      refine xl_skip rfl rfl rfl ?_
      refine xl_skip rfl rfl rfl ?_
      refine xl_pure rfl rfl rfl (pv_pick_f (v := .bool _) rfl rfl rfl) ?_
      refine xl_pure rfl rfl rfl (pv_assign (v := .bool _) rfl rfl) ?_
      refine xl_nil ?_
      refine xthen_normal ?_
      refine xc_ret ?_
      refine fin_ret (res1 (v := .bool _) rfl rfl) ?_
      first
        | exact ⟨.inl ⟨by rw [isB_iff]; omega, rfl⟩, hX⟩
        | exact ⟨.inr ⟨by rw [isB_iff]; omega, rfl⟩, hX⟩
  · skip
    refine xl_pure rfl rfl rfl (pv_move (v := .bool _) rfl rfl) ?_
    refine xl_skip rfl rfl rfl ?_
    refine xl_skip rfl rfl rfl ?_
    refine xl_skip rfl rfl rfl ?_
    refine xl_pure rfl rfl rfl (pv_pick_f (v := .bool _) rfl rfl rfl) ?_
    refine xl_pure rfl rfl rfl (pv_move (v := .bool _) rfl rfl) ?_
    refine xl_skip rfl rfl rfl ?_
    refine xl_skip rfl rfl rfl ?_
    refine xl_skip rfl rfl rfl ?_
    refine xl_pure rfl rfl rfl (pv_pick_f (v := .bool _) rfl rfl rfl) ?_
    refine xl_pure rfl rfl rfl (pv_move (v := .bool _) rfl rfl) ?_
    refine xl_skip rfl rfl rfl ?_
    refine xl_skip rfl rfl rfl ?_
    refine xl_skip rfl rfl rfl ?_
    refine xl_pure rfl rfl rfl (pv_pick_f (v := .bool _) rfl rfl rfl) ?_
    refine xl_pure rfl rfl rfl (pv_assign (v := .bool _) rfl rfl) ?_
    refine xl_nil ?_
    refine xthen_normal ?_
    refine xc_ret ?_
    refine fin_ret (res1 (v := .bool _) rfl rfl) ?_
    first
      | exact ⟨.inl ⟨by rw [isB_iff]; omega, rfl⟩, hX⟩
      | exact ⟨.inr ⟨by rw [isB_iff]; omega, rfl⟩, hX⟩

theorem c48 {O : Outer} {H : Heap} (k0 k1 k2 k3 : Int) :
    FnC Try.prog 48 #[.agg #[.int .i64 k0, .int .i64 k1, .int .i64 k2, .int .i64 k3]] O H (fun v H' => (IsB [k0, k1, k2, k3] ∧ v = .bool true ∨ ¬ IsB [k0, k1, k2, k3] ∧ v = .bool false) ∧ Ext H H') := by
  refine fn_enter (A := [.agg #[.int .i64 k0, .int .i64 k1, .int .i64 k2, .int .i64 k3]]) Try.func48 rfl rfl ?_
  have hX := Ext.refl H
  refine xc_seq ?_
  refine xc_region ?_
  refine xl_heavy rfl rfl rfl (hv_box rfl rfl) ?_
  rintro v0_0 H0_0 ⟨b0_0, rfl, hN0_0⟩
  have gb0_0 := hX.fresh hN0_0
  have hX := hX.trans hN0_0.ext
  have m0_0 := hN0_0.blk
  refine xl_pure rfl rfl rfl (pv_assign (v := .bool _) rfl rfl) ?_
  refine xl_nil ?_
  refine xthen_normal ?_
  refine xc_seq ?_
  refine xc_region ?_
  refine xl_pure rfl rfl rfl (pv_fieldAddr rfl rfl) ?_
  refine xl_light rfl rfl rfl (lv_load (v := .int _ _) rfl rfl (ld_blk m0_0 rfl)) ?_
  refine xl_dec rfl rfl rfl (pv_geq rfl rfl rfl) (fun h1_2 => ?_) (fun h1_2 => ?_)
  · skip
    refine xl_pure rfl rfl rfl (pv_move (v := .bool _) rfl rfl) ?_
    refine xl_pure rfl rfl rfl (pv_fieldAddr rfl rfl) ?_
    refine xl_light rfl rfl rfl (lv_load (v := .int _ _) rfl rfl (ld_blk m0_0 rfl)) ?_
    refine xl_dec rfl rfl rfl (pv_leq rfl rfl rfl) (fun h1_6 => ?_) (fun h1_6 => ?_)
    · skip
      refine xl_pure rfl rfl rfl (pv_pick_t (v := .bool _) rfl rfl rfl) ?_
      refine xl_pure rfl rfl rfl (pv_move (v := .bool _) rfl rfl) ?_
      refine xl_pure rfl rfl rfl (pv_fieldAddr rfl rfl) ?_
      refine xl_light rfl rfl rfl (lv_load (v := .int _ _) rfl rfl (ld_blk m0_0 rfl)) ?_
      refine xl_dec rfl rfl rfl (pv_geq rfl rfl rfl) (fun h1_11 => ?_) (fun h1_11 => ?_)
      · skip
        refine xl_pure rfl rfl rfl (pv_pick_t (v := .bool _) rfl rfl rfl) ?_
        refine xl_pure rfl rfl rfl (pv_move (v := .bool _) rfl rfl) ?_
        refine xl_pure rfl rfl rfl (pv_fieldAddr rfl rfl) ?_
        refine xl_light rfl rfl rfl (lv_load (v := .int _ _) rfl rfl (ld_blk m0_0 rfl)) ?_
        refine xl_dec rfl rfl rfl (pv_leq rfl rfl rfl) (fun h1_16 => ?_) (fun h1_16 => ?_)
        · skip
          refine xl_pure rfl rfl rfl (pv_pick_t (v := .bool _) rfl rfl rfl) ?_
          refine xl_pure rfl rfl rfl (pv_move (v := .bool _) rfl rfl) ?_
          refine xl_pure rfl rfl rfl (pv_fieldAddr rfl rfl) ?_
          refine xl_light rfl rfl rfl (lv_load (v := .int _ _) rfl rfl (ld_blk m0_0 rfl)) ?_
          refine xl_dec rfl rfl rfl (pv_geq rfl rfl rfl) (fun h1_21 => ?_) (fun h1_21 => ?_)
          · skip
            refine xl_pure rfl rfl rfl (pv_pick_t (v := .bool _) rfl rfl rfl) ?_
            refine xl_pure rfl rfl rfl (pv_move (v := .bool _) rfl rfl) ?_
            refine xl_pure rfl rfl rfl (pv_fieldAddr rfl rfl) ?_
            refine xl_light rfl rfl rfl (lv_load (v := .int _ _) rfl rfl (ld_blk m0_0 rfl)) ?_
            refine xl_dec rfl rfl rfl (pv_leq rfl rfl rfl) (fun h1_26 => ?_) (fun h1_26 => ?_)
            · skip
              refine xl_pure rfl rfl rfl (pv_pick_t (v := .bool _) rfl rfl rfl) ?_
              refine xl_pure rfl rfl rfl (pv_move (v := .bool _) rfl rfl) ?_
              refine xl_pure rfl rfl rfl (pv_fieldAddr rfl rfl) ?_
              refine xl_light rfl rfl rfl (lv_load (v := .int _ _) rfl rfl (ld_blk m0_0 rfl)) ?_
              refine xl_dec rfl rfl rfl (pv_geq rfl rfl rfl) (fun h1_31 => ?_) (fun h1_31 => ?_)
              · skip
                refine xl_pure rfl rfl rfl (pv_pick_t (v := .bool _) rfl rfl rfl) ?_
                refine xl_pure rfl rfl rfl (pv_move (v := .bool _) rfl rfl) ?_
                refine xl_pure rfl rfl rfl (pv_fieldAddr rfl rfl) ?_
                refine xl_light rfl rfl rfl (lv_load (v := .int _ _) rfl rfl (ld_blk m0_0 rfl)) ?_
                refine xl_dec rfl rfl rfl (pv_leq rfl rfl rfl) (fun h1_36 => ?_) (fun h1_36 => ?_)
                · skip
                  refine xl_pure rfl rfl rfl (pv_pick_t (v := .bool _) rfl rfl rfl) ?_
                  refine xl_pure rfl rfl rfl (pv_assign (v := .bool _) rfl rfl) ?_
                  refine xl_nil ?_
                  refine xthen_normal ?_
                  refine xc_ret ?_
                  refine fin_ret (res1 (v := .bool _) rfl rfl) ?_
                  first
                    | exact ⟨.inl ⟨by rw [isB_iff]; omega, rfl⟩, hX⟩
                    | exact ⟨.inr ⟨by rw [isB_iff]; omega, rfl⟩, hX⟩
                · skip
                  refine xl_pure rfl rfl rfl (pv_pick_t (v := .bool _) rfl rfl rfl) ?_
                  refine xl_pure rfl rfl rfl (pv_assign (v := .bool _) rfl rfl) ?_
                  refine xl_nil ?_
                  refine xthen_normal ?_
                  refine xc_ret ?_
                  refine fin_ret (res1 (v := .bool _) rfl rfl) ?_
                  first
                    | exact ⟨.inl ⟨by rw [isB_iff]; omega, rfl⟩, hX⟩
                    | exact ⟨.inr ⟨by rw [isB_iff]; omega, rfl⟩, hX⟩
              · skip
                refine xl_pure rfl rfl rfl (pv_pick_t (v := .bool _) rfl rfl rfl) ?_
                refine xl_pure rfl rfl rfl (pv_move (v := .bool _) rfl rfl) ?_
                refine xl_skip rfl rfl rfl ?_
                refine xl_skip rfl rfl rfl ?_
                refine xl_skip rfl rfl rfl ?_
                refine xl_pure rfl rfl rfl (pv_pick_f (v := .bool _) rfl rfl rfl) ?_
                refine xl_pure rfl rfl rfl (pv_assign (v := .bool _) rfl rfl) ?_
                refine xl_nil ?_
                refine xthen_normal ?_
                refine xc_ret ?_
                refine fin_ret (res1 (v := .bool _) rfl rfl) ?_
                first
                  | exact ⟨.inl ⟨by rw [isB_iff]; omega, rfl⟩, hX⟩
                  | exact ⟨.inr ⟨by rw [isB_iff]; omega, rfl⟩, hX⟩
            · skip
              refine xl_pure rfl rfl rfl (pv_pick_t (v := .bool _) rfl rfl rfl) ?_
              refine xl_pure rfl rfl rfl (pv_move (v := .bool _) rfl rfl) ?_
              refine xl_skip rfl rfl rfl ?_
              refine xl_skip rfl rfl rfl ?_
              refine xl_skip rfl rfl rfl ?_
              refine xl_pure rfl rfl rfl (pv_pick_f (v := .bool _) rfl rfl rfl) ?_
              refine xl_pure rfl rfl rfl (pv_move (v := .bool _) rfl rfl) ?_
              refine xl_skip rfl rfl rfl ?_
              refine xl_skip rfl rfl rfl ?_
              refine xl_skip rfl rfl rfl ?_
              refine xl_pure rfl rfl rfl (pv_pick_f (v := .bool _) rfl rfl rfl) ?_
              refine xl_pure rfl rfl rfl (pv_assign (v := .bool _) rfl rfl) ?_
              refine xl_nil ?_
              refine xthen_normal ?_
              refine xc_ret ?_
              refine fin_ret (res1 (v := .bool _) rfl rfl) ?_
              first
                | exact ⟨.inl ⟨by rw [isB_iff]; omega, rfl⟩, hX⟩
                | exact ⟨.inr ⟨by rw [isB_iff]; omega, rfl⟩, hX⟩
          · skip
            refine xl_pure rfl rfl rfl (pv_pick_t (v := .bool _) rfl rfl rfl) ?_
            refine xl_pure rfl rfl rfl (pv_move (v := .bool _) rfl rfl) ?_
            refine xl_skip rfl rfl rfl ?_
            refine xl_skip rfl rfl rfl ?_
            refine xl_skip rfl rfl rfl ?_
            refine xl_pure rfl rfl rfl (pv_pick_f (v := .bool _) rfl rfl rfl) ?_
            refine xl_pure rfl rfl rfl (pv_move (v := .bool _) rfl rfl) ?_
            refine xl_skip rfl rfl rfl ?_
            refine xl_skip rfl rfl rfl ?_
            refine xl_skip rfl rfl rfl ?_
            refine xl_pure rfl rfl rfl (pv_pick_f (v := .bool _) rfl rfl rfl) ?_
            refine xl_pure rfl rfl rfl (pv_move (v := .bool _) rfl rfl) ?_
            refine xl_skip rfl rfl rfl ?_
            refine xl_skip rfl rfl rfl ?_
            refine xl_skip rfl rfl rfl ?_
            refine xl_pure rfl rfl rfl (pv_pick_f (v := .bool _) rfl rfl rfl) ?_
            refine xl_pure rfl rfl rfl (pv_assign (v := .bool _) rfl rfl) ?_
            refine xl_nil ?_
            refine xthen_normal ?_
            refine xc_ret ?_
            refine fin_ret (res1 (v := .bool _) rfl rfl) ?_
            first
              | exact ⟨.inl ⟨by rw [isB_iff]; omega, rfl⟩, hX⟩
              | exact ⟨.inr ⟨by rw [isB_iff]; omega, rfl⟩, hX⟩
        · skip
          refine xl_pure rfl rfl rfl (pv_pick_t (v := .bool _) rfl rfl rfl) ?_
          refine xl_pure rfl rfl rfl (pv_move (v := .bool _) rfl rfl) ?_
          refine xl_skip rfl rfl rfl ?_
          refine xl_skip rfl rfl rfl ?_
          refine xl_skip rfl rfl rfl ?_
          refine xl_pure rfl rfl rfl (pv_pick_f (v := .bool _) rfl rfl rfl) ?_
          refine xl_pure rfl rfl rfl (pv_move (v := .bool _) rfl rfl) ?_
          refine xl_skip rfl rfl rfl ?_
          refine xl_skip rfl rfl rfl ?_
          refine xl_skip rfl rfl rfl ?_
          refine xl_pure rfl rfl rfl (pv_pick_f (v := .bool _) rfl rfl rfl) ?_
          refine xl_pure rfl rfl rfl (pv_move (v := .bool _) rfl rfl) ?_
          refine xl_skip rfl rfl rfl ?_
          refine xl_skip rfl rfl rfl ?_
          refine xl_skip rfl rfl rfl ?_
          refine xl_pure rfl rfl rfl (pv_pick_f (v := .bool _) rfl rfl rfl) ?_
          refine xl_pure rfl rfl rfl (pv_move (v := .bool _) rfl rfl) ?_
          refine xl_skip rfl rfl rfl ?_
          refine xl_skip rfl rfl rfl ?_
          refine xl_skip rfl rfl rfl ?_
          refine xl_pure rfl rfl rfl (pv_pick_f (v := .bool _) rfl rfl rfl) ?_
          refine xl_pure rfl rfl rfl (pv_assign (v := .bool _) rfl rfl) ?_
          refine xl_nil ?_
          refine xthen_normal ?_
          refine xc_ret ?_
          refine fin_ret (res1 (v := .bool _) rfl rfl) ?_
          first
            | exact ⟨.inl ⟨by rw [isB_iff]; omega, rfl⟩, hX⟩
            | exact ⟨.inr ⟨by rw [isB_iff]; omega, rfl⟩, hX⟩
      · skip
        refine xl_pure rfl rfl rfl (pv_pick_t (v := .bool _) rfl rfl rfl) ?_
        refine xl_pure rfl rfl rfl (pv_move (v := .bool _) rfl rfl) ?_
        refine xl_skip rfl rfl rfl ?_
        refine xl_skip rfl rfl rfl ?_
        refine xl_skip rfl rfl rfl ?_
        refine xl_pure rfl rfl rfl (pv_pick_f (v := .bool _) rfl rfl rfl) ?_
        refine xl_pure rfl rfl rfl (pv_move (v := .bool _) rfl rfl) ?_
        refine xl_skip rfl rfl rfl ?_
        refine xl_skip rfl rfl rfl ?_
        refine xl_skip rfl rfl rfl ?_
        refine xl_pure rfl rfl rfl (pv_pick_f (v := .bool _) rfl rfl rfl) ?_
        refine xl_pure rfl rfl rfl (pv_move (v := .bool _) rfl rfl) ?_
        refine xl_skip rfl rfl rfl ?_
        refine xl_skip rfl rfl rfl ?_
        refine xl_skip rfl rfl rfl ?_
        refine xl_pure rfl rfl rfl (pv_pick_f (v := .bool _) rfl rfl rfl) ?_
        refine xl_pure rfl rfl rfl (pv_move (v := .bool _) rfl rfl) ?_
        refine xl_skip rfl rfl rfl ?_
        refine xl_skip rfl rfl rfl ?_
        refine xl_skip rfl rfl rfl ?_
        refine xl_pure rfl rfl rfl (pv_pick_f (v := .bool _) rfl rfl rfl) ?_
        refine xl_pure rfl rfl rfl (pv_move (v := .bool _) rfl rfl) ?_
        refine xl_skip rfl rfl rfl ?_
        refine xl_skip rfl rfl rfl ?_
        refine xl_skip rfl rfl rfl ?_
        refine xl_pure rfl rfl rfl (pv_pick_f (v := .bool _) rfl rfl rfl) ?_
        refine xl_pure rfl rfl rfl (pv_assign (v := .bool _) rfl rfl) ?_
        refine xl_nil ?_
        refine xthen_normal ?_
        refine xc_ret ?_
        refine fin_ret (res1 (v := .bool _) rfl rfl) ?_
        first
          | exact ⟨.inl ⟨by rw [isB_iff]; omega, rfl⟩, hX⟩
          | exact ⟨.inr ⟨by rw [isB_iff]; omega, rfl⟩, hX⟩
    · skip
      refine xl_pure rfl rfl rfl (pv_pick_t (v := .bool _) rfl rfl rfl) ?_
      refine xl_pure rfl rfl rfl (pv_move (v := .bool _) rfl rfl) ?_
      refine xl_skip rfl rfl rfl ?_
      refine xl_skip rfl rfl rfl ?_
      refine xl_skip rfl rfl rfl ?_
      refine xl_pure rfl rfl rfl (pv_pick_f (v := .bool _) rfl rfl rfl) ?_
      refine xl_pure rfl rfl rfl (pv_move (v := .bool _) rfl rfl) ?_
      refine xl_skip rfl rfl rfl ?_
      refine xl_skip rfl rfl rfl ?_
      refine xl_skip rfl rfl rfl ?_
      refine xl_pure rfl rfl rfl (pv_pick_f (v := .bool _) rfl rfl rfl) ?_
      refine xl_pure rfl rfl rfl (pv_move (v := .bool _) rfl rfl) ?_
      refine xl_skip rfl rfl rfl ?_
      refine xl_skip rfl rfl rfl ?_
      refine xl_skip rfl rfl rfl ?_
      refine xl_pure rfl rfl rfl (pv_pick_f (v := .bool _) rfl rfl rfl) ?_
      refine xl_pure rfl rfl rfl (pv_move (v := .bool _) rfl rfl) ?_
      refine xl_skip rfl rfl rfl ?_
      refine xl_skip rfl rfl rfl ?_
      refine xl_skip rfl rfl rfl ?_
      refine xl_pure rfl rfl rfl (pv_pick_f (v := .bool _) rfl rfl rfl) ?_
      refine xl_pure rfl rfl rfl (pv_move (v := .bool _) rfl rfl) ?_
      refine xl_skip rfl rfl rfl ?_
      refine xl_skip rfl rfl rfl ?_
      refine xl_skip rfl rfl rfl ?_
      refine xl_pure rfl rfl rfl (pv_pick_f (v := .bool _) rfl rfl rfl) ?_
      refine xl_pure rfl rfl rfl (pv_move (v := .bool _) rfl rfl) ?_
      refine xl_skip rfl rfl rfl ?_
      refine xl_skip rfl rfl rfl ?_
      refine xl_skip rfl rfl rfl ?_
      refine xl_pure rfl rfl rfl (pv_pick_f (v := .bool _) rfl rfl rfl) ?_
      refine xl_pure rfl rfl rfl (pv_assign (v := .bool _) rfl rfl) ?_
      refine xl_nil ?_
      refine xthen_normal ?_
      refine xc_ret ?_
      refine fin_ret (res1 (v := .bool _) rfl rfl) ?_
      first
        | exact ⟨.inl ⟨by rw [isB_iff]; omega, rfl⟩, hX⟩
        | exact ⟨.inr ⟨by rw [isB_iff]; omega, rfl⟩, hX⟩
  · skip
    refine xl_pure rfl rfl rfl (pv_move (v := .bool _) rfl rfl) ?_
    refine xl_skip rfl rfl rfl ?_
    refine xl_skip rfl rfl rfl ?_
    refine xl_skip rfl rfl rfl ?_
    refine xl_pure rfl rfl rfl (pv_pick_f (v := .bool _) rfl rfl rfl) ?_
    refine xl_pure rfl rfl rfl (pv_move (v := .bool _) rfl rfl) ?_
    refine xl_skip rfl rfl rfl ?_
    refine xl_skip rfl rfl rfl ?_
    refine xl_skip rfl rfl rfl ?_
    refine xl_pure rfl rfl rfl (pv_pick_f (v := .bool _) rfl rfl rfl) ?_
    refine xl_pure rfl rfl rfl (pv_move (v := .bool _) rfl rfl) ?_
    refine xl_skip rfl rfl rfl ?_
    refine xl_skip rfl rfl rfl ?_
    refine xl_skip rfl rfl rfl ?_
    refine xl_pure rfl rfl rfl (pv_pick_f (v := .bool _) rfl rfl rfl) ?_
    refine xl_pure rfl rfl rfl (pv_move (v := .bool _) rfl rfl) ?_
    refine xl_skip rfl rfl rfl ?_
    refine xl_skip rfl rfl rfl ?_
    refine xl_skip rfl rfl rfl ?_
    refine xl_pure rfl rfl rfl (pv_pick_f (v := .bool _) rfl rfl rfl) ?_
    refine xl_pure rfl rfl rfl (pv_move (v := .bool _) rfl rfl) ?_
    refine xl_skip rfl rfl rfl ?_
    refine xl_skip rfl rfl rfl ?_
    refine xl_skip rfl rfl rfl ?_
    refine xl_pure rfl rfl rfl (pv_pick_f (v := .bool _) rfl rfl rfl) ?_
    refine xl_pure rfl rfl rfl (pv_move (v := .bool _) rfl rfl) ?_
    refine xl_skip rfl rfl rfl ?_
    refine xl_skip rfl rfl rfl ?_
    refine xl_skip rfl rfl rfl ?_
    refine xl_pure rfl rfl rfl (pv_pick_f (v := .bool _) rfl rfl rfl) ?_
    refine xl_pure rfl rfl rfl (pv_move (v := .bool _) rfl rfl) ?_
    refine xl_skip rfl rfl rfl ?_
    refine xl_skip rfl rfl rfl ?_
    refine xl_skip rfl rfl rfl ?_
    refine xl_pure rfl rfl rfl (pv_pick_f (v := .bool _) rfl rfl rfl) ?_
    refine xl_pure rfl rfl rfl (pv_assign (v := .bool _) rfl rfl) ?_
    refine xl_nil ?_
    refine xthen_normal ?_
    refine xc_ret ?_
    refine fin_ret (res1 (v := .bool _) rfl rfl) ?_
    first
      | exact ⟨.inl ⟨by rw [isB_iff]; omega, rfl⟩, hX⟩
      | exact ⟨.inr ⟨by rw [isB_iff]; omega, rfl⟩, hX⟩

theorem c43 {O : Outer} {H : Heap} {bp c : Nat} {a : Option Addr} {l : List (List Int)} {T : List Int} (mp : Blk H bp (.slice a (l).length c :: ints (T)) 87) (hR : RowsT H 138 5 a l) (hc : l.length ≤ c) (hna : a = none → c = 0) (hl : l.length < 1000000) (hs : Srt l) (hT : T.length = 33) (k0 k1 k2 k3 : Int) :
    FnC Try.prog 43 #[.pointer (some ⟨bp, 0, none⟩), .agg #[.int .i64 k0, .int .i64 k1, .int .i64 k2, .int .i64 k3]] O H (fun v H' => v = .int .i64 (qtyB l [k0, k1, k2, k3]) ∧ Ext H H') := by
  refine fn_enter (A := [.pointer (some ⟨bp, 0, none⟩), .agg #[.int .i64 k0, .int .i64 k1, .int .i64 k2, .int .i64 k3]]) Try.func43 rfl rfl ?_
  have hX := Ext.refl H
  refine xc_seq ?_
  refine xc_region ?_
  refine xl_heavy rfl rfl rfl (hv_box rfl rfl) ?_
  rintro v0_0 H0_0 ⟨b0_0, rfl, hN0_0⟩
  have gb0_0 := hX.fresh hN0_0
  have nmp_0_0 := mp.apart hN0_0
  have mp := mp.ext hN0_0.ext
  have hR := hR.ext hN0_0.ext
  have hX := hX.trans hN0_0.ext
  have m0_0 := hN0_0.blk
  refine xl_pure rfl rfl rfl (pv_assign (v := .int _ _) rfl rfl) ?_
  refine xl_nil ?_
  refine xthen_normal ?_
  refine xc_seq ?_
  refine xc_seq ?_
  refine xc_region ?_
  refine xl_pure rfl rfl rfl (pv_move (v := .pointer _) rfl rfl) ?_
  refine xl_pure rfl rfl rfl (pv_eql_pn rfl rfl rfl) ?_
  refine xl_nil ?_
  refine xthen_normal ?_
  refine xc_cond_f rfl ?_
  refine xc_skip ?_
  refine xthen_normal ?_
  refine xc_seq ?_
  refine xp_start rfl (by repeat (first | with_reducible exact np_fin | with_reducible exact np_ret | with_reducible refine np_then ?_ | with_reducible refine np_block ?_)) (by kernel_rfl) ?_
  refine xp_pure (i := 0) rfl (by kernel_rfl) (by kernel_rfl) rfl rfl rfl (pv_move (v := .pointer _) rfl rfl) ?_
  refine xp_pure (i := 1) rfl (by kernel_rfl) (by kernel_rfl) rfl rfl rfl (pv_nilCheck_p rfl rfl) ?_
  refine xp_pure (i := 2) rfl (by kernel_rfl) (by kernel_rfl) rfl rfl rfl (pv_fieldAddr rfl rfl) ?_
  refine xp_light (i := 3) rfl (by kernel_rfl) (by kernel_rfl) rfl rfl rfl (lv_load (v := .agg _) rfl rfl (ld_blk_a m0_0 rfl rfl)) ?_
  refine xp_heavy (i := 4) (by kernel_rfl) ?_
  refine xph_val rfl rfl rfl rfl (hv_call (g := 47) rfl rfl (c47 k0 k1 k2 k3) rfl) (pd (by kernel_rfl) pn) ?_
  rintro v3_4 H3_4 ⟨rfl, hE3_4⟩
  have mp := mp.ext hE3_4
  have hR := hR.ext hE3_4
  have m0_0 := m0_0.ext hE3_4
  have hX := hX.trans hE3_4
  refine ⟨okn, ?_⟩
  refine xp_heavy (i := 5) (by kernel_rfl) ?_
  refine xph_val rfl rfl rfl rfl (hv_call (g := 75) rfl rfl (c75 mp hR rfl hs hc hna (by omega) [k0, k1, k2, k3] rfl) rfl) pn ?_
  rintro v3_5 H3_5 ⟨rfl, hE3_5⟩
  have mp := mp.ext hE3_5
  have hR := hR.ext hE3_5
  have m0_0 := m0_0.ext hE3_5
  have hX := hX.trans hE3_5
  refine ⟨okn, ?_⟩
  refine xp_pure (i := 6) rfl (by kernel_rfl) (by kernel_rfl) rfl rfl rfl (pv_move (v := .tuple _) rfl rfl) ?_
  refine xp_pure (i := 7) rfl (by kernel_rfl) (by kernel_rfl) rfl rfl rfl (pv_extract (v := .int _ _) rfl rfl rfl) ?_
  refine xp_pure (i := 8) rfl (by kernel_rfl) (by kernel_rfl) rfl rfl rfl (pv_extract (v := .bool _) rfl rfl rfl) ?_
  refine xp_pure (i := 9) rfl (by kernel_rfl) (by kernel_rfl) rfl rfl rfl (pv_assign (v := .int _ _) rfl rfl) ?_
  refine xp_pure (i := 10) rfl (by kernel_rfl) (by kernel_rfl) rfl rfl rfl (pv_assign (v := .bool _) rfl rfl) ?_
  refine xp_done (by kernel_rfl) ?_
  refine xthen_normal ?_
  refine xc_seq ?_
  refine xc_region ?_
  refine xl_pure rfl rfl rfl (pv_move (v := .int _ _) rfl rfl) ?_
  refine xl_pure rfl rfl rfl (pv_assign (v := .int _ _) rfl rfl) ?_
  refine xl_nil ?_
  refine xthen_normal ?_
  refine xc_ret ?_
  refine fin_ret (res1 (v := .int _ _) rfl rfl) ?_
  exact ⟨rfl, hX⟩

theorem c43n {O : Outer} {H : Heap} (k0 k1 k2 k3 : Int) :
    FnC Try.prog 43 #[.pointer none, .agg #[.int .i64 k0, .int .i64 k1, .int .i64 k2, .int .i64 k3]] O H (fun v H' => v = .int .i64 0 ∧ Ext H H') := by
  refine fn_enter (A := [.pointer none, .agg #[.int .i64 k0, .int .i64 k1, .int .i64 k2, .int .i64 k3]]) Try.func43 rfl rfl ?_
  have hX := Ext.refl H
  refine xc_seq ?_
  refine xc_region ?_
  refine xl_heavy rfl rfl rfl (hv_box rfl rfl) ?_
  rintro v0_0 H0_0 ⟨b0_0, rfl, hN0_0⟩
  have gb0_0 := hX.fresh hN0_0
  have hX := hX.trans hN0_0.ext
  have m0_0 := hN0_0.blk
  refine xl_pure rfl rfl rfl (pv_assign (v := .int _ _) rfl rfl) ?_
  refine xl_nil ?_
  refine xthen_normal ?_
  refine xc_seq ?_
  refine xc_seq ?_
  refine xc_region ?_
  refine xl_pure rfl rfl rfl (pv_move (v := .pointer _) rfl rfl) ?_
  refine xl_pure rfl rfl rfl (pv_eql_nn rfl rfl rfl) ?_
  refine xl_nil ?_
  refine xthen_normal ?_
  refine xc_cond_t rfl ?_
  refine xc_seq ?_
  refine xc_region ?_
  refine xl_pure rfl rfl rfl (pv_assign (v := .int _ _) rfl rfl) ?_
  refine xl_nil ?_
  refine xthen_normal ?_
  refine xc_ret ?_
  refine xthen_ret ?_
  refine fin_ret (res1 (v := .int _ _) rfl rfl) ?_
  exact ⟨rfl, hX⟩

theorem c80 {O : Outer} {H : Heap} (a0 a1 a2 a3 b0 b1 b2 b3 : Int) :
    FnC Try.prog 80 #[.agg #[.int .i64 a0, .int .i64 a1, .int .i64 a2, .int .i64 a3], .agg #[.int .i64 b0, .int .i64 b1, .int .i64 b2, .int .i64 b3]] O H (fun v H' => (kcmp [a0, a1, a2, a3] [b0, b1, b2, b3] < 0 ∧ v = .bool true ∨ ¬ kcmp [a0, a1, a2, a3] [b0, b1, b2, b3] < 0 ∧ v = .bool false) ∧ Ext H H') := by
  refine fn_enter (A := [.agg #[.int .i64 a0, .int .i64 a1, .int .i64 a2, .int .i64 a3], .agg #[.int .i64 b0, .int .i64 b1, .int .i64 b2, .int .i64 b3]]) Try.func80 rfl rfl ?_
  have hX := Ext.refl H
  refine xc_seq ?_
  refine xc_region ?_
  refine xl_heavy rfl rfl rfl (hv_box rfl rfl) ?_
  rintro v0_0 H0_0 ⟨b0_0, rfl, hN0_0⟩
  have gb0_0 := hX.fresh hN0_0
  have hX := hX.trans hN0_0.ext
  have m0_0 := hN0_0.blk
  refine xl_heavy rfl rfl rfl (hv_box rfl rfl) ?_
  rintro v0_1 H0_1 ⟨b0_1, rfl, hN0_1⟩
  have gb0_1 := hX.fresh hN0_1
  have nm0_0_0_1 := m0_0.apart hN0_1
  have m0_0 := m0_0.ext hN0_1.ext
  have hX := hX.trans hN0_1.ext
  have m0_1 := hN0_1.blk
  refine xl_pure rfl rfl rfl (pv_assign (v := .bool _) rfl rfl) ?_
  refine xl_nil ?_
  refine xthen_normal ?_
  refine xc_seq ?_
  refine xc_seq ?_
  refine xc_region ?_
  refine xl_pure rfl rfl rfl (pv_fieldAddr rfl rfl) ?_
  refine xl_light rfl rfl rfl (lv_load (v := .int _ _) rfl rfl (ld_blk m0_0 rfl)) ?_
  refine xl_pure rfl rfl rfl (pv_fieldAddr rfl rfl) ?_
  refine xl_light rfl rfl rfl (lv_load (v := .int _ _) rfl rfl (ld_blk m0_1 rfl)) ?_
  refine xl_ndec rfl rfl rfl (pv_neq rfl rfl rfl) (fun h1_4 => ?_) (fun h1_4 => ?_)
  · skip
    refine xl_nil ?_
    refine xthen_normal ?_
    refine xc_cond_f rfl ?_
    refine xc_skip ?_
    refine xthen_normal ?_
    refine xc_seq ?_
    refine xc_seq ?_
    refine xc_region ?_
    refine xl_pure rfl rfl rfl (pv_fieldAddr rfl rfl) ?_
    refine xl_light rfl rfl rfl (lv_load (v := .int _ _) rfl rfl (ld_blk m0_0 rfl)) ?_
    refine xl_pure rfl rfl rfl (pv_fieldAddr rfl rfl) ?_
    refine xl_light rfl rfl rfl (lv_load (v := .int _ _) rfl rfl (ld_blk m0_1 rfl)) ?_
    refine xl_ndec rfl rfl rfl (pv_neq rfl rfl rfl) (fun h3_4 => ?_) (fun h3_4 => ?_)
    · skip
      refine xl_nil ?_
      refine xthen_normal ?_
      refine xc_cond_f rfl ?_
      refine xc_skip ?_
      refine xthen_normal ?_
      refine xc_seq ?_
      refine xc_seq ?_
      refine xc_region ?_
      refine xl_pure rfl rfl rfl (pv_fieldAddr rfl rfl) ?_
      refine xl_light rfl rfl rfl (lv_load (v := .int _ _) rfl rfl (ld_blk m0_0 rfl)) ?_
      refine xl_pure rfl rfl rfl (pv_fieldAddr rfl rfl) ?_
      refine xl_light rfl rfl rfl (lv_load (v := .int _ _) rfl rfl (ld_blk m0_1 rfl)) ?_
      refine xl_ndec rfl rfl rfl (pv_neq rfl rfl rfl) (fun h5_4 => ?_) (fun h5_4 => ?_)
      · skip
        refine xl_nil ?_
        refine xthen_normal ?_
        refine xc_cond_f rfl ?_
        refine xc_skip ?_
        refine xthen_normal ?_
        refine xc_seq ?_
        refine xc_region ?_
        refine xl_pure rfl rfl rfl (pv_fieldAddr rfl rfl) ?_
        refine xl_light rfl rfl rfl (lv_load (v := .int _ _) rfl rfl (ld_blk m0_0 rfl)) ?_
        refine xl_pure rfl rfl rfl (pv_fieldAddr rfl rfl) ?_
        refine xl_light rfl rfl rfl (lv_load (v := .int _ _) rfl rfl (ld_blk m0_1 rfl)) ?_
        refine xl_dec rfl rfl rfl (pv_lss rfl rfl rfl) (fun h7_4 => ?_) (fun h7_4 => ?_)
        · skip
          refine xl_pure rfl rfl rfl (pv_assign (v := .bool _) rfl rfl) ?_
          refine xl_nil ?_
          refine xthen_normal ?_
          refine xc_ret ?_
          refine fin_ret (res1 (v := .bool _) rfl rfl) ?_
          first
            | exact ⟨.inl ⟨by rw [kcmp4]; omega, rfl⟩, hX⟩
            | exact ⟨.inr ⟨by rw [kcmp4]; omega, rfl⟩, hX⟩
        · skip
          refine xl_pure rfl rfl rfl (pv_assign (v := .bool _) rfl rfl) ?_
          refine xl_nil ?_
          refine xthen_normal ?_
          refine xc_ret ?_
          refine fin_ret (res1 (v := .bool _) rfl rfl) ?_
          first
            | exact ⟨.inl ⟨by rw [kcmp4]; omega, rfl⟩, hX⟩
            | exact ⟨.inr ⟨by rw [kcmp4]; omega, rfl⟩, hX⟩
      · skip
        refine xl_nil ?_
        refine xthen_normal ?_
        refine xc_cond_t rfl ?_
        refine xc_seq ?_
        refine xc_region ?_
        refine xl_pure rfl rfl rfl (pv_fieldAddr rfl rfl) ?_
        refine xl_light rfl rfl rfl (lv_load (v := .int _ _) rfl rfl (ld_blk m0_0 rfl)) ?_
        refine xl_pure rfl rfl rfl (pv_fieldAddr rfl rfl) ?_
        refine xl_light rfl rfl rfl (lv_load (v := .int _ _) rfl rfl (ld_blk m0_1 rfl)) ?_
        refine xl_dec rfl rfl rfl (pv_lss rfl rfl rfl) (fun h6_4 => ?_) (fun h6_4 => ?_)
        · skip
          refine xl_pure rfl rfl rfl (pv_assign (v := .bool _) rfl rfl) ?_
          refine xl_nil ?_
          refine xthen_normal ?_
          refine xc_ret ?_
          refine xthen_ret ?_
          refine fin_ret (res1 (v := .bool _) rfl rfl) ?_
          first
            | exact ⟨.inl ⟨by rw [kcmp4]; omega, rfl⟩, hX⟩
            | exact ⟨.inr ⟨by rw [kcmp4]; omega, rfl⟩, hX⟩
        · skip
          refine xl_pure rfl rfl rfl (pv_assign (v := .bool _) rfl rfl) ?_
          refine xl_nil ?_
          refine xthen_normal ?_
          refine xc_ret ?_
          refine xthen_ret ?_
          refine fin_ret (res1 (v := .bool _) rfl rfl) ?_
          first
            | exact ⟨.inl ⟨by rw [kcmp4]; omega, rfl⟩, hX⟩
            | exact ⟨.inr ⟨by rw [kcmp4]; omega, rfl⟩, hX⟩
    · skip
      refine xl_nil ?_
      refine xthen_normal ?_
      refine xc_cond_t rfl ?_
      refine xc_seq ?_
      refine xc_region ?_
      refine xl_pure rfl rfl rfl (pv_fieldAddr rfl rfl) ?_
      refine xl_light rfl rfl rfl (lv_load (v := .int _ _) rfl rfl (ld_blk m0_0 rfl)) ?_
      refine xl_pure rfl rfl rfl (pv_fieldAddr rfl rfl) ?_
      refine xl_light rfl rfl rfl (lv_load (v := .int _ _) rfl rfl (ld_blk m0_1 rfl)) ?_
      refine xl_dec rfl rfl rfl (pv_lss rfl rfl rfl) (fun h4_4 => ?_) (fun h4_4 => ?_)
      · skip
        refine xl_pure rfl rfl rfl (pv_assign (v := .bool _) rfl rfl) ?_
        refine xl_nil ?_
        refine xthen_normal ?_
        refine xc_ret ?_
        refine xthen_ret ?_
        refine fin_ret (res1 (v := .bool _) rfl rfl) ?_
        first
          | exact ⟨.inl ⟨by rw [kcmp4]; omega, rfl⟩, hX⟩
          | exact ⟨.inr ⟨by rw [kcmp4]; omega, rfl⟩, hX⟩
      · skip
        refine xl_pure rfl rfl rfl (pv_assign (v := .bool _) rfl rfl) ?_
        refine xl_nil ?_
        refine xthen_normal ?_
        refine xc_ret ?_
        refine xthen_ret ?_
        refine fin_ret (res1 (v := .bool _) rfl rfl) ?_
        first
          | exact ⟨.inl ⟨by rw [kcmp4]; omega, rfl⟩, hX⟩
          | exact ⟨.inr ⟨by rw [kcmp4]; omega, rfl⟩, hX⟩
  · skip
    refine xl_nil ?_
    refine xthen_normal ?_
    refine xc_cond_t rfl ?_
    refine xc_seq ?_
    refine xc_region ?_
    refine xl_pure rfl rfl rfl (pv_fieldAddr rfl rfl) ?_
    refine xl_light rfl rfl rfl (lv_load (v := .int _ _) rfl rfl (ld_blk m0_0 rfl)) ?_
    refine xl_pure rfl rfl rfl (pv_fieldAddr rfl rfl) ?_
    refine xl_light rfl rfl rfl (lv_load (v := .int _ _) rfl rfl (ld_blk m0_1 rfl)) ?_
    refine xl_dec rfl rfl rfl (pv_lss rfl rfl rfl) (fun h2_4 => ?_) (fun h2_4 => ?_)
    · skip
      refine xl_pure rfl rfl rfl (pv_assign (v := .bool _) rfl rfl) ?_
      refine xl_nil ?_
      refine xthen_normal ?_
      refine xc_ret ?_
      refine xthen_ret ?_
      refine fin_ret (res1 (v := .bool _) rfl rfl) ?_
      first
        | exact ⟨.inl ⟨by rw [kcmp4]; omega, rfl⟩, hX⟩
        | exact ⟨.inr ⟨by rw [kcmp4]; omega, rfl⟩, hX⟩
    · skip
      refine xl_pure rfl rfl rfl (pv_assign (v := .bool _) rfl rfl) ?_
      refine xl_nil ?_
      refine xthen_normal ?_
      refine xc_ret ?_
      refine xthen_ret ?_
      refine fin_ret (res1 (v := .bool _) rfl rfl) ?_
      first
        | exact ⟨.inl ⟨by rw [kcmp4]; omega, rfl⟩, hX⟩
        | exact ⟨.inr ⟨by rw [kcmp4]; omega, rfl⟩, hX⟩

theorem c80k {O : Outer} {H : Heap} (a b : List Int) (ha : a.length = 4) (hb : b.length = 4) :
    FnC Try.prog 80 #[.agg (ints a).toArray, .agg (ints b).toArray] O H (fun v H' => (kcmp a b < 0 ∧ v = .bool true ∨ ¬ kcmp a b < 0 ∧ v = .bool false) ∧ Ext H H') := by
  obtain ⟨a0, a1, a2, a3, rfl⟩ := four ha
  obtain ⟨b0, b1, b2, b3, rfl⟩ := four hb
  exact c80 a0 a1 a2 a3 b0 b1 b2 b3

theorem c49 {O : Outer} {H : Heap} {a : Option Addr} {c : Nat} {l : List (List Int)} (hx : RowsT H 99 5 a l) (hs : Srt l) (hl : l.length < 1000000) (k : List Int) (hk : k.length = 4) :
    FnC Try.prog 49 #[.slice a l.length c, .agg (ints k).toArray] O H (fun v H' => v = .int .i64 (qtyB l k) ∧ Ext H H') := by
  refine fn_enter (A := [.slice a l.length c, .agg (ints k).toArray]) Try.func49 rfl rfl ?_
  have hX := Ext.refl H
  refine xc_seq ?_
  refine xc_region ?_
  refine xl_heavy rfl rfl rfl (hv_box rfl rfl) ?_
  rintro v0_0 H0_0 ⟨b0_0, rfl, hN0_0⟩
  have gb0_0 := hX.fresh hN0_0
  have hX := hX.trans hN0_0.ext
  have m0_0 := hN0_0.blk
  refine xl_pure rfl rfl rfl (pv_assign (v := .int _ _) rfl rfl) ?_
  refine xl_nil ?_
  refine xthen_normal ?_
  refine xc_seq ?_
  refine xc_seq ?_
  refine xc_region ?_
  refine xl_pure rfl rfl rfl (pv_assign (v := .int _ _) rfl rfl) ?_
  refine xl_nil ?_
  refine xthen_normal ?_
  refine xc_block ?_
  refine xc_loop (τ := Nat) (fun t => [(0, .slice a l.length c), (3, .pointer (some ⟨b0_0, 0, none⟩)), (5, .int .i64 (t : Nat))]) (fun t H' => (t ≤ l.length) ∧ (∀ j, j < t → ky (gr l j) ≠ k) ∧ (Blk H' b0_0 (ints k) 37) ∧ (Ext H H')) (fun t H' => l.length - t) 0 ?_ ?_ ?_
  · exact ⟨rfl, rfl, rfl, trivial⟩
  · skip
    exact ⟨Nat.zero_le _, fun j hj => absurd hj (by omega), m0_0, hX⟩
  · intro σ
    clear hX m0_0
    rintro i Hl2 ⟨hi, hlo, m0_0, hX⟩
    replace hi : i ≤ l.length := hi
    replace hlo : ∀ j, j < i → ky (gr l j) ≠ k := hlo
    replace m0_0 : Blk Hl2 b0_0 (ints k) 37 := m0_0
    replace hX : Ext H Hl2 := hX
    obtain ⟨ba, off, hae⟩ := (hx.ext hX).at
    show XC _ _ _ (upds σ [(0, .slice a l.length c), (3, .pointer (some ⟨b0_0, 0, none⟩)), (5, .int .i64 (i : Nat))]) _
    refine xc_seq ?_
    refine xc_seq ?_
    refine xc_region ?_
    refine xl_pure rfl rfl rfl (pv_move (v := .int _ _) rfl rfl) ?_
    refine xl_pure rfl rfl rfl (pv_move (v := .slice _ _ _) rfl rfl) ?_
    refine xl_pure rfl rfl rfl (pv_len_l rfl rfl) ?_
    refine xl_dec rfl rfl rfl (pv_lss rfl rfl rfl) (fun h2_3 => ?_) (fun h2_3 => ?_)
    · skip
      refine xl_nil ?_
      refine xthen_normal ?_
      refine xc_cond_t rfl ?_
      refine xc_skip ?_
      refine xthen_normal ?_
      refine xc_seq ?_
      refine xc_block ?_
      refine xc_seq ?_
      refine xp_start rfl (by repeat (first | with_reducible exact np_fin | with_reducible exact np_ret | with_reducible refine np_then ?_ | with_reducible refine np_block ?_)) (by kernel_rfl) ?_
      refine xp_pure (i := 0) rfl (by kernel_rfl) (by kernel_rfl) rfl rfl rfl (pv_move (v := .slice _ _ _) rfl rfl) ?_
      refine xp_pure (i := 1) rfl (by kernel_rfl) (by kernel_rfl) rfl rfl rfl (pv_move (v := .int _ _) rfl rfl) ?_
      refine xp_pure (i := 2) rfl (by kernel_rfl) (by kernel_rfl) rfl rfl rfl (pv_indexAddr_l rfl (sl_eq (hae (by omega)).1) rfl (by omega)) ?_
      refine xp_pure (i := 3) rfl (by kernel_rfl) (by kernel_rfl) rfl rfl rfl (pv_fieldAddr rfl rfl) ?_
      refine xp_light (i := 4) rfl (by kernel_rfl) (by kernel_rfl) rfl rfl rfl (lv_load (v := .agg _) rfl rfl (by exact ld_rky (hae (by omega)).2 hx.wide (by decide) (by omega))) ?_
      refine xp_light (i := 5) rfl (by kernel_rfl) (by kernel_rfl) rfl rfl rfl (lv_load (v := .agg _) rfl rfl (by exact ld_ints m0_0 hk)) ?_
      refine xp_dec (i := 6) rfl (by kernel_rfl) (by kernel_rfl) rfl rfl rfl (pv_eql_g (ky (gr l i)) k rfl rfl rfl (ky_len (hx.wide.get (by omega)) (by decide)) hk) (fun h4_6 => ?_) (fun h4_6 => ?_)
      · skip
        refine xp_done (by kernel_rfl) ?_
        refine xthen_normal ?_
        refine xc_cond_t rfl ?_
        refine xc_seq ?_
        refine xc_region ?_
        refine xl_pure rfl rfl rfl (pv_move (v := .slice _ _ _) rfl rfl) ?_
        refine xl_pure rfl rfl rfl (pv_move (v := .int _ _) rfl rfl) ?_
        refine xl_pure rfl rfl rfl (pv_indexAddr_l rfl (sl_eq (hae (by omega)).1) rfl (by omega)) ?_
        refine xl_pure rfl rfl rfl (pv_fieldAddr rfl rfl) ?_
        refine xl_light rfl rfl rfl (lv_load (v := .int _ _) rfl rfl (by exact ld_num (j := 4) (hae (by omega)).2 hx.wide (by omega) (by decide))) ?_
        refine xl_pure rfl rfl rfl (pv_assign (v := .int _ _) rfl rfl) ?_
        refine xl_nil ?_
        refine xthen_normal ?_
        refine xc_ret ?_
        refine xblock_ret ?_
        refine xthen_ret ?_
        refine xthen_ret ?_
        refine xblock_ret ?_
        refine xthen_ret ?_
        refine fin_ret (res1 (v := .int _ _) rfl rfl) ?_
        exact ⟨iv (qty_at hs hx.wide hk (by omega) h4_6).symm, hX⟩
      · skip
        refine xp_done (by kernel_rfl) ?_
        refine xthen_normal ?_
        refine xc_cond_f rfl ?_
        refine xc_skip ?_
        refine xblock_normal ?_
        refine xthen_normal ?_
        refine xc_region ?_
        refine xl_pure rfl rfl rfl (pv_move (v := .int _ _) rfl rfl) ?_
        refine xl_pure rfl rfl rfl (pv_add rfl rfl rfl (fit_i64 (by omega))) ?_
        refine xl_pure rfl rfl rfl (pv_assign (v := .int _ _) rfl rfl) ?_
        refine xl_nil ?_
        refine xthen_normal ?_
        exact ⟨i + 1, ⟨rfl, rfl, rfl, trivial⟩, ⟨by (try simp only); omega, all_next hlo h4_6, m0_0, hX⟩, by (try simp only); omega⟩
    · skip
      refine xl_nil ?_
      refine xthen_normal ?_
      refine xc_cond_f rfl ?_
      refine xc_exit ?_
      refine xthen_exit ?_
      refine xthen_exit ?_
      refine xblock_same ?_
      refine xthen_normal ?_
      refine xc_seq ?_
      refine xc_region ?_
      refine xl_pure rfl rfl rfl (pv_assign (v := .int _ _) rfl rfl) ?_
      refine xl_nil ?_
      refine xthen_normal ?_
      refine xc_ret ?_
      refine fin_ret (res1 (v := .int _ _) rfl rfl) ?_
      exact ⟨iv (qty_no hs hx.wide hk (fun j hj => hlo j (by omega))).symm, hX⟩

theorem c23 {O : Outer} {H : Heap} (l m : List (List Int)) (a a' : Option Addr) (c c' : Nat) (hs : Rows H a 5 l) (hs' : Rows H a' 5 m) (hl : l.length < 4611686018427387904) :
    FnC Try.prog 23 #[.slice a l.length c, .slice a' m.length c'] O H (fun v H' => ∃ r, v = .bool r ∧ (r = true ↔ l = m) ∧ H = H') := by
  refine fn_enter (A := [.slice a l.length c, .slice a' m.length c']) Try.func23 rfl rfl ?_
  refine xc_seq ?_
  refine xc_region ?_
  refine xl_pure rfl rfl rfl (pv_assign (v := .bool _) rfl rfl) ?_
  refine xl_nil ?_
  refine xthen_normal ?_
  refine xc_seq ?_
  refine xc_seq ?_
  refine xc_region ?_
  refine xl_pure rfl rfl rfl (pv_move (v := .slice _ _ _) rfl rfl) ?_
  refine xl_pure rfl rfl rfl (pv_len_l rfl rfl) ?_
  refine xl_pure rfl rfl rfl (pv_move (v := .slice _ _ _) rfl rfl) ?_
  refine xl_pure rfl rfl rfl (pv_len_l rfl rfl) ?_
  refine xl_ndec rfl rfl rfl (pv_neq rfl rfl rfl) (fun h1_4 => ?_) (fun h1_4 => ?_)
  · skip
    refine xl_nil ?_
    refine xthen_normal ?_
    refine xc_cond_f rfl ?_
    refine xc_skip ?_
    refine xthen_normal ?_
    refine xc_seq ?_
    refine xc_seq ?_
    refine xc_region ?_
    refine xl_pure rfl rfl rfl (pv_assign (v := .int _ _) rfl rfl) ?_
    refine xl_nil ?_
    refine xthen_normal ?_
    refine xc_block ?_
    refine xc_loop (τ := Nat) (fun t => [(0, .slice a l.length c), (1, .slice a' m.length c'), (5, .int .i64 (t : Nat))]) (fun t H' => t ≤ l.length ∧ (l = m ↔ l.drop t = m.drop t) ∧ H = H') (fun t H' => l.length - t) 0 ?_ ?_ ?_
    · exact ⟨rfl, rfl, rfl, trivial⟩
    · skip
      exact ⟨Nat.zero_le _, Iff.rfl, rfl⟩
    · intro σ
      rintro k Hl ⟨hk, heq, rfl⟩
      show XC _ _ _ (upds σ [(0, .slice a l.length c), (1, .slice a' m.length c'), (5, .int .i64 (k : Nat))]) _
      refine xc_seq ?_
      refine xc_seq ?_
      refine xc_region ?_
      refine xl_pure rfl rfl rfl (pv_move (v := .int _ _) rfl rfl) ?_
      refine xl_pure rfl rfl rfl (pv_move (v := .slice _ _ _) rfl rfl) ?_
      refine xl_pure rfl rfl rfl (pv_len_l rfl rfl) ?_
      refine xl_dec rfl rfl rfl (pv_lss rfl rfl rfl) (fun h4_3 => ?_) (fun h4_3 => ?_)
      · skip
        refine xl_pure rfl rfl rfl (pv_move (v := .bool _) rfl rfl) ?_
        refine xl_pure rfl rfl rfl (pv_move (v := .int _ _) rfl rfl) ?_
        refine xl_pure rfl rfl rfl (pv_move (v := .slice _ _ _) rfl rfl) ?_
        refine xl_pure rfl rfl rfl (pv_len_l rfl rfl) ?_
        refine xl_dec rfl rfl rfl (pv_lss rfl rfl rfl) (fun h4_8 => ?_) (fun h4_8 => ?_)
        · skip
          refine xl_pure rfl rfl rfl (pv_pick_t (v := .bool _) rfl rfl rfl) ?_
          refine xl_nil ?_
          refine xthen_normal ?_
          refine xc_cond_t rfl ?_
          refine xc_skip ?_
          refine xthen_normal ?_
          refine xc_seq ?_
          refine xc_block ?_
          refine xc_seq ?_
          obtain ⟨ba, off, rfl, hsa⟩ := hs.2.resolve_left (by omega)
          obtain ⟨bb, off', rfl, hsb⟩ := hs'.2.resolve_left (by omega)
          refine xp_start rfl (by repeat (first | with_reducible exact np_fin | with_reducible exact np_ret | with_reducible refine np_then ?_ | with_reducible refine np_block ?_)) (by kernel_rfl) ?_
          refine xp_pure (i := 0) rfl (by kernel_rfl) (by kernel_rfl) rfl rfl rfl (pv_move (v := .slice _ _ _) rfl rfl) ?_
          refine xp_pure (i := 1) rfl (by kernel_rfl) (by kernel_rfl) rfl rfl rfl (pv_move (v := .int _ _) rfl rfl) ?_
          refine xp_pure (i := 2) rfl (by kernel_rfl) (by kernel_rfl) rfl rfl rfl (pv_indexAddr_l rfl rfl rfl (by omega)) ?_
          refine xp_light (i := 3) rfl (by kernel_rfl) (by kernel_rfl) rfl rfl rfl (lv_load (v := .agg _) rfl rfl (by first | exact ld_row' (i := k) hsa hs.1 (by omega))) ?_
          refine xp_pure (i := 4) rfl (by kernel_rfl) (by kernel_rfl) rfl rfl rfl (pv_move (v := .slice _ _ _) rfl rfl) ?_
          refine xp_pure (i := 5) rfl (by kernel_rfl) (by kernel_rfl) rfl rfl rfl (pv_move (v := .int _ _) rfl rfl) ?_
          refine xp_pure (i := 6) rfl (by kernel_rfl) (by kernel_rfl) rfl rfl rfl (pv_indexAddr_l rfl rfl rfl (by omega)) ?_
          refine xp_light (i := 7) rfl (by kernel_rfl) (by kernel_rfl) rfl rfl rfl (lv_load (v := .agg _) rfl rfl (by first | exact ld_row' (i := k) hsb hs'.1 (by omega))) ?_
          refine xp_ndec (i := 8) rfl (by kernel_rfl) (by kernel_rfl) rfl rfl rfl (pv_neq_g (gr l k) (gr m k) rfl rfl rfl (hs.1.get (by omega)) (hs'.1.get (by omega))) (fun h6_8 => ?_) (fun h6_8 => ?_)
          · skip
            refine xp_done (by kernel_rfl) ?_
            refine xthen_normal ?_
            refine xc_cond_f rfl ?_
            refine xc_skip ?_
            refine xblock_normal ?_
            refine xthen_normal ?_
            refine xc_region ?_
            refine xl_pure rfl rfl rfl (pv_move (v := .int _ _) rfl rfl) ?_
            refine xl_pure rfl rfl rfl (pv_add rfl rfl rfl (fit_i64 (by omega))) ?_
            refine xl_pure rfl rfl rfl (pv_assign (v := .int _ _) rfl rfl) ?_
            refine xl_nil ?_
            refine xthen_normal ?_
            exact ⟨k + 1, ⟨rfl, rfl, rfl, trivial⟩, ⟨by omega, (rows_drop (by omega) (by omega) heq).trans ⟨fun h => h.2, fun h => ⟨h6_8, h⟩⟩, rfl⟩, by omega⟩
          · skip
            refine xp_done (by kernel_rfl) ?_
            refine xthen_normal ?_
            refine xc_cond_t rfl ?_
            refine xc_seq ?_
            refine xc_region ?_
            refine xl_pure rfl rfl rfl (pv_assign (v := .bool _) rfl rfl) ?_
            refine xl_nil ?_
            refine xthen_normal ?_
            refine xc_ret ?_
            refine xblock_ret ?_
            refine xthen_ret ?_
            refine xthen_ret ?_
            refine xblock_ret ?_
            refine xthen_ret ?_
            refine fin_ret (res1 (v := .bool _) rfl rfl) ?_
            exact ⟨false, rfl, ⟨fun h => absurd h (by decide), fun h => absurd ((rows_drop (by omega) (by omega) heq).1 h).1 h6_8⟩, rfl⟩
        · skip
          refine xl_pure rfl rfl rfl (pv_pick_t (v := .bool _) rfl rfl rfl) ?_
          refine xl_nil ?_
          refine xthen_normal ?_
          refine xc_cond_f rfl ?_
          refine xc_exit ?_
          refine xthen_exit ?_
          refine xthen_exit ?_
          refine xblock_same ?_
          refine xthen_normal ?_
          refine xc_seq ?_
          refine xc_region ?_
          refine xl_pure rfl rfl rfl (pv_assign (v := .bool _) rfl rfl) ?_
          refine xl_nil ?_
          refine xthen_normal ?_
          refine xc_ret ?_
          refine fin_ret (res1 (v := .bool _) rfl rfl) ?_
          exact ⟨true, rfl, ⟨fun _ => heq.2 (by rw [List.drop_of_length_le (by omega), List.drop_of_length_le (by omega)]), fun _ => rfl⟩, rfl⟩
      · skip
        refine xl_pure rfl rfl rfl (pv_move (v := .bool _) rfl rfl) ?_
        refine xl_skip rfl rfl rfl ?_
        refine xl_skip rfl rfl rfl ?_
        refine xl_skip rfl rfl rfl ?_
        refine xl_skip rfl rfl rfl ?_
        refine xl_pure rfl rfl rfl (pv_pick_f (v := .bool _) rfl rfl rfl) ?_
        refine xl_nil ?_
        refine xthen_normal ?_
        refine xc_cond_f rfl ?_
        refine xc_exit ?_
        refine xthen_exit ?_
        refine xthen_exit ?_
        refine xblock_same ?_
        refine xthen_normal ?_
        refine xc_seq ?_
        refine xc_region ?_
        refine xl_pure rfl rfl rfl (pv_assign (v := .bool _) rfl rfl) ?_
        refine xl_nil ?_
        refine xthen_normal ?_
        refine xc_ret ?_
        refine fin_ret (res1 (v := .bool _) rfl rfl) ?_
        exact ⟨true, rfl, ⟨fun _ => heq.2 (by rw [List.drop_of_length_le (by omega), List.drop_of_length_le (by omega)]), fun _ => rfl⟩, rfl⟩
  · skip
    refine xl_nil ?_
    refine xthen_normal ?_
    refine xc_cond_t rfl ?_
    refine xc_seq ?_
    refine xc_region ?_
    refine xl_pure rfl rfl rfl (pv_assign (v := .bool _) rfl rfl) ?_
    refine xl_nil ?_
    refine xthen_normal ?_
    refine xc_ret ?_
    refine xthen_ret ?_
    refine fin_ret (res1 (v := .bool _) rfl rfl) ?_
    exact ⟨false, rfl, ⟨fun h => absurd h (by decide), fun h => by subst h; omega⟩, rfl⟩

theorem c50 {O : Outer} {H : Heap} {a : Option Addr} {c : Nat} {l : List (List Int)} (hx : RowsT H 99 5 a l) (hs : Srt l) (hl : l.length < 1000000) (k : List Int) (hk : k.length = 4) (n : Int) :
    FnC Try.prog 50 #[.slice a l.length c, .agg (ints k).toArray, .int .i64 n] O H (fun v H' => ∃ a' c', v = .slice a' (setB l k n).length c' ∧ RowsT H' 99 5 a' (setB l k n) ∧ Ext H H') := by
  have hw := hx.wide
  have hk5 : (k ++ [n]).length = 5 := by simp [hk]
  refine fn_enter (A := [.slice a l.length c, .agg (ints k).toArray, .int .i64 n]) Try.func50 rfl rfl ?_
  have hX := Ext.refl H
  refine xc_seq ?_
  refine xc_region ?_
  refine xl_heavy rfl rfl rfl (hv_box rfl rfl) ?_
  rintro v0_0 H0_0 ⟨b0_0, rfl, hN0_0⟩
  have gb0_0 := hX.fresh hN0_0
  have hX := hX.trans hN0_0.ext
  have m0_0 := hN0_0.blk
  refine xl_pure rfl rfl rfl (pv_assign (v := .slice _ _ _) rfl rfl) ?_
  refine xl_nil ?_
  refine xthen_normal ?_
  refine xc_seq ?_
  refine xc_region ?_
  refine xl_pure rfl rfl rfl (pv_assign (v := .slice _ _ _) rfl rfl) ?_
  refine xl_nil ?_
  refine xthen_normal ?_
  refine xc_seq ?_
  refine xc_region ?_
  refine xl_pure rfl rfl rfl (pv_move (v := .int _ _) rfl rfl) ?_
  refine xl_dec rfl rfl rfl (pv_eql rfl rfl rfl) (fun h2_1 => ?_) (fun h2_1 => ?_)
  · skip
    refine xl_pure rfl rfl rfl (pv_assign (v := .bool _) rfl rfl) ?_
    refine xl_nil ?_
    refine xthen_normal ?_
    refine xc_seq ?_
    refine xc_seq ?_
    refine xc_region ?_
    refine xl_pure rfl rfl rfl (pv_assign (v := .int _ _) rfl rfl) ?_
    refine xl_nil ?_
    refine xthen_normal ?_
    refine xc_block ?_
    refine xc_loop (τ := Nat × Bool × List (List Int) × Option Addr × Nat) (fun t => [(0, .slice a l.length c), (2, .int .i64 n), (4, .pointer (some ⟨b0_0, 0, none⟩)), (7, .slice t.2.2.2.1 t.2.2.1.length t.2.2.2.2), (8, .bool t.2.1), (9, .int .i64 (t.1 : Nat))]) (fun t H' => (t.1 ≤ l.length) ∧ (SetI l k n t.1 t.2.1 t.2.2.1) ∧ (Blk H' b0_0 (ints k) 37) ∧ (Own H' H.size 99 5 (.slice t.2.2.2.1 t.2.2.1.length t.2.2.2.2) t.2.2.1.length (fr t.2.2.1)) ∧ (Ext H H')) (fun t H' => l.length - t.1) (0, true, [], none, 0) ?_ ?_ ?_
    · exact ⟨rfl, rfl, rfl, rfl, rfl, rfl, trivial⟩
    · skip
      exact ⟨Nat.zero_le _, .inr (.inl ⟨rfl, h2_1, rfl⟩), m0_0, by simpa [fr] using Own.nil _ H.size 99 5, hX⟩
    · intro σ
      clear hX m0_0
      rintro ⟨i, dn, out, va, vc⟩ Hl4 ⟨hi, hI, m0_0, ho, hX⟩
      replace hi : i ≤ l.length := hi
      replace hI : SetI l k n i dn out := hI
      replace m0_0 : Blk Hl4 b0_0 (ints k) 37 := m0_0
      replace ho : Own Hl4 H.size 99 5 (.slice va out.length vc) out.length (fr out) := ho
      replace hX : Ext H Hl4 := hX
      obtain ⟨ba, off, hae⟩ := (hx.ext hX).at
      have hol := hI.len hi
      show XC _ _ _ (upds σ [(0, .slice a l.length c), (2, .int .i64 n), (4, .pointer (some ⟨b0_0, 0, none⟩)), (7, .slice va out.length vc), (8, .bool dn), (9, .int .i64 (i : Nat))]) _
      refine xc_seq ?_
      refine xc_seq ?_
      refine xc_region ?_
      refine xl_pure rfl rfl rfl (pv_move (v := .int _ _) rfl rfl) ?_
      refine xl_pure rfl rfl rfl (pv_move (v := .slice _ _ _) rfl rfl) ?_
      refine xl_pure rfl rfl rfl (pv_len_l rfl rfl) ?_
      refine xl_dec rfl rfl rfl (pv_lss rfl rfl rfl) (fun h4_3 => ?_) (fun h4_3 => ?_)
      · skip
        refine xl_nil ?_
        refine xthen_normal ?_
        refine xc_cond_t rfl ?_
        refine xc_skip ?_
        refine xthen_normal ?_
        refine xc_seq ?_
        refine xc_block ?_
        refine xc_seq ?_
        refine xc_seq ?_
        have hil : i < l.length := by omega
        have hr5 := hw.get hil
        have hk4 := ky_len hr5 (by decide)
        refine xp_start rfl (by repeat (first | with_reducible exact np_fin | with_reducible exact np_ret | with_reducible refine np_then ?_ | with_reducible refine np_block ?_)) (by kernel_rfl) ?_
        refine xp_pure (i := 0) rfl (by kernel_rfl) (by kernel_rfl) rfl rfl rfl (pv_move (v := .bool _) rfl rfl) ?_
        cases dn
        · skip
          refine xp_pure (i := 1) rfl (by kernel_rfl) (by kernel_rfl) rfl rfl rfl (pv_not rfl rfl) ?_
          refine xp_pure (i := 2) rfl (by kernel_rfl) (by kernel_rfl) rfl rfl rfl (pv_move (v := .bool _) rfl rfl) ?_
          refine xp_light (i := 3) rfl (by kernel_rfl) (by kernel_rfl) rfl rfl rfl (lv_load (v := .agg _) rfl rfl (by exact ld_ints m0_0 hk)) ?_
          refine xp_pure (i := 4) rfl (by kernel_rfl) (by kernel_rfl) rfl rfl rfl (pv_move (v := .slice _ _ _) rfl rfl) ?_
          refine xp_pure (i := 5) rfl (by kernel_rfl) (by kernel_rfl) rfl rfl rfl (pv_move (v := .int _ _) rfl rfl) ?_
          refine xp_pure (i := 6) rfl (by kernel_rfl) (by kernel_rfl) rfl rfl rfl (pv_indexAddr_l rfl (sl_eq (hae (by omega)).1) rfl (by omega)) ?_
          refine xp_pure (i := 7) rfl (by kernel_rfl) (by kernel_rfl) rfl rfl rfl (pv_fieldAddr rfl rfl) ?_
          refine xp_light (i := 8) rfl (by kernel_rfl) (by kernel_rfl) rfl rfl rfl (lv_load (v := .agg _) rfl rfl (by exact ld_rky (hae (by omega)).2 hw (by decide) (by omega))) ?_
          refine xp_heavy (i := 9) (by kernel_rfl) ?_
          refine xph_val rfl rfl rfl rfl (hv_call (g := 80) rfl rfl (c80k k (ky (gr l i)) hk hk4) rfl) (pd (by kernel_rfl) (pd (by kernel_rfl) pn)) ?_
          rintro v6_9 H6_9 ⟨hv6_9, hE6_9⟩
          have m0_0 := m0_0.ext hE6_9
          have ho := ho.ext hE6_9
          have hX := hX.trans hE6_9
          refine ⟨okn, ?_⟩
          rcases hv6_9 with ⟨hc6_9, rfl⟩ | ⟨hc6_9, rfl⟩
          · skip
            refine xp_pure (i := 10) rfl (by kernel_rfl) (by kernel_rfl) rfl rfl rfl (pv_pick_t (v := .bool _) rfl rfl rfl) ?_
            refine xp_done (by kernel_rfl) ?_
            refine xthen_normal ?_
            refine xc_cond_t rfl ?_
            refine xc_seq ?_
            refine xc_region ?_
            refine xl_pure rfl rfl rfl (pv_move (v := .slice _ _ _) rfl rfl) ?_
            refine xl_light rfl rfl rfl (lv_load (v := .agg _) rfl rfl (by exact ld_ints m0_0 hk)) ?_
            refine xl_pure rfl rfl rfl (pv_move (v := .int _ _) rfl rfl) ?_
            refine xl_pure rfl rfl rfl (pv_build_pair (xs := ints k) (ys := [.int .i64 n]) rfl rfl rfl rfl rfl (by rw [ints_ten hk]; rfl) (by rw [ints_ten hk]; rfl) (by rw [ints_ten hk]; rfl)) ?_
            refine xl_heavy rfl rfl rfl (hv_buildSlice (cs := ints (k ++ [n])) rfl rfl (by rw [← ints_app]; exact parts1 (by simp [ints, hk])) rfl rfl) ?_
            rintro v7_4 H7_4 ⟨b7_4, rfl, hN7_4⟩
            have gb7_4 := hX.fresh hN7_4
            have nm0_0_7_4 := m0_0.apart hN7_4
            have pm7_4_ho := ho.apartN hN7_4
            have m0_0 := m0_0.ext hN7_4.ext
            have ho := ho.ext hN7_4.ext
            have hX := hX.trans hN7_4.ext
            have m7_4 := hN7_4.blk
            refine xl_heavy rfl rfl rfl (hv_append (size := 5) rfl rfl ho rfl m7_4.row (by simpa using ints_ten hk5) (ints_mem _) rfl (by decide) (by omega) (by omega) hX.size) ?_
            rintro v7_5 H7_5 ⟨hO7_5, hG7_5, -, hB7_5⟩
            have m0_0 := m0_0.offT ho hG7_5 rfl
            have hX := ho.grown hX hG7_5 (Nat.le_refl _)
            obtain ⟨a7_5, c7_5, rfl⟩ := hO7_5.val
            refine xl_pure rfl rfl rfl (pv_assign (v := .slice _ _ _) rfl rfl) ?_
            refine xl_nil ?_
            refine xthen_normal ?_
            refine xc_region ?_
            refine xl_pure rfl rfl rfl (pv_assign (v := .bool _) rfl rfl) ?_
            refine xl_nil ?_
            refine xthen_normal ?_
            refine xc_seq ?_
            obtain ⟨ba, off, hae⟩ := (hx.ext hX).at
            refine xp_start rfl (by repeat (first | with_reducible exact np_fin | with_reducible exact np_ret | with_reducible refine np_then ?_ | with_reducible refine np_block ?_)) (by kernel_rfl) ?_
            refine xp_pure (i := 0) rfl (by kernel_rfl) (by kernel_rfl) rfl rfl rfl (pv_move (v := .slice _ _ _) rfl rfl) ?_
            refine xp_pure (i := 1) rfl (by kernel_rfl) (by kernel_rfl) rfl rfl rfl (pv_move (v := .int _ _) rfl rfl) ?_
            refine xp_pure (i := 2) rfl (by kernel_rfl) (by kernel_rfl) rfl rfl rfl (pv_indexAddr_l rfl (sl_eq (hae (by omega)).1) rfl (by omega)) ?_
            refine xp_pure (i := 3) rfl (by kernel_rfl) (by kernel_rfl) rfl rfl rfl (pv_fieldAddr rfl rfl) ?_
            refine xp_light (i := 4) rfl (by kernel_rfl) (by kernel_rfl) rfl rfl rfl (lv_load (v := .agg _) rfl rfl (by exact ld_rky (hae (by omega)).2 hw (by decide) (by omega))) ?_
            refine xp_light (i := 5) rfl (by kernel_rfl) (by kernel_rfl) rfl rfl rfl (lv_load (v := .agg _) rfl rfl (by exact ld_ints m0_0 hk)) ?_
            refine xp_ndec (i := 6) rfl (by kernel_rfl) (by kernel_rfl) rfl rfl rfl (pv_neq_g (ky (gr l i)) k rfl rfl rfl hk4 hk) (fun h9_6 => ?_) (fun h9_6 => ?_)
            · skip
              refine xp_done (by kernel_rfl) ?_
              refine xthen_normal ?_
              refine xc_cond_f rfl ?_
              refine xc_skip ?_
              refine xblock_normal ?_
              refine xthen_normal ?_
              refine xc_region ?_
              refine xl_pure rfl rfl rfl (pv_move (v := .int _ _) rfl rfl) ?_
              refine xl_pure rfl rfl rfl (pv_add rfl rfl rfl (fit_i64 (by omega))) ?_
              refine xl_pure rfl rfl rfl (pv_assign (v := .int _ _) rfl rfl) ?_
              refine xl_nil ?_
              refine xthen_normal ?_
              first
                | exact ⟨(i + 1, _, (out ++ [k ++ [n]] ++ [gr l i]), _, _), ⟨rfl, rfl, rfl, slv (by simp), rfl, rfl, trivial⟩, ⟨by (try simp only); omega, by have h := (hI.ins hs hw hk hil rfl hc6_9).row hs hw hk hil (fun h => by cases h); rw [if_pos h9_6] at h; exact h, m0_0, by simpa [fr_app, fr] using hO10_6, hX⟩, by (try simp only); omega⟩
                | exact ⟨(i + 1, _, (out ++ [k ++ [n]]), _, _), ⟨rfl, rfl, rfl, slv (by simp), rfl, rfl, trivial⟩, ⟨by (try simp only); omega, by have h := (hI.ins hs hw hk hil rfl hc6_9).row hs hw hk hil (fun h => by cases h); rw [if_neg (fun h2 => h2 h9_6), List.append_nil] at h; exact h, m0_0, by simpa [fr_app, fr] using hO7_5, hX⟩, by (try simp only); omega⟩
                | exact ⟨(i + 1, _, (out ++ [gr l i]), _, _), ⟨rfl, rfl, rfl, slv (by simp), rfl, rfl, trivial⟩, ⟨by (try simp only); omega, by have h := hI.row hs hw hk hil (by first | exact fun _ => hc6_9 | exact fun h => by cases h); rw [if_pos h9_6] at h; exact h, m0_0, by simpa [fr_app, fr] using hO10_6, hX⟩, by (try simp only); omega⟩
                | exact ⟨(i + 1, _, out, _, _), ⟨rfl, rfl, rfl, slv (by simp), rfl, rfl, trivial⟩, ⟨by (try simp only); omega, by have h := hI.row hs hw hk hil (by first | exact fun _ => hc6_9 | exact fun h => by cases h); rw [if_neg (fun h2 => h2 h9_6), List.append_nil] at h; exact h, m0_0, by simpa [fr_app, fr] using ho, hX⟩, by (try simp only); omega⟩
            · skip
              refine xp_done (by kernel_rfl) ?_
              refine xthen_normal ?_
              refine xc_cond_t rfl ?_
              obtain ⟨ba, off, hae⟩ := (hx.ext hX).at
              refine xc_region ?_
              refine xl_pure rfl rfl rfl (pv_move (v := .slice _ _ _) rfl rfl) ?_
              refine xl_pure rfl rfl rfl (pv_move (v := .slice _ _ _) rfl rfl) ?_
              refine xl_pure rfl rfl rfl (pv_move (v := .int _ _) rfl rfl) ?_
              refine xl_pure rfl rfl rfl (pv_indexAddr_l rfl (sl_eq (hae (by omega)).1) rfl (by omega)) ?_
              refine xl_light rfl rfl rfl (lv_load (v := .agg _) rfl rfl (by exact ld_row' (hae (by omega)).2 hw (by omega))) ?_
              refine xl_heavy rfl rfl rfl (hv_buildSlice (cs := ints (gr l i)) rfl rfl (parts1 (ints_ten hr5)) rfl rfl) ?_
              rintro v10_5 H10_5 ⟨b10_5, rfl, hN10_5⟩
              have gb10_5 := hX.fresh hN10_5
              have nm0_0_10_5 := m0_0.apart hN10_5
              have pm10_5_hO7_5 := hO7_5.apartN hN10_5
              have m0_0 := m0_0.ext hN10_5.ext
              have hO7_5 := hO7_5.ext hN10_5.ext
              have hX := hX.trans hN10_5.ext
              have m10_5 := hN10_5.blk
              refine xl_heavy rfl rfl rfl (hv_append (size := 5) rfl rfl hO7_5 rfl m10_5.row (by simpa using ints_ten hr5) (ints_mem _) rfl (by decide) (by omega) (by omega) hX.size) ?_
              rintro v10_6 H10_6 ⟨hO10_6, hG10_6, -, hB10_6⟩
              have m0_0 := m0_0.offT hO7_5 hG10_6 rfl
              have hX := hO7_5.grown hX hG10_6 (Nat.le_refl _)
              obtain ⟨a10_6, c10_6, rfl⟩ := hO10_6.val
              refine xl_pure rfl rfl rfl (pv_assign (v := .slice _ _ _) rfl rfl) ?_
              refine xl_nil ?_
              refine xblock_normal ?_
              refine xthen_normal ?_
              refine xc_region ?_
              refine xl_pure rfl rfl rfl (pv_move (v := .int _ _) rfl rfl) ?_
              refine xl_pure rfl rfl rfl (pv_add rfl rfl rfl (fit_i64 (by omega))) ?_
              refine xl_pure rfl rfl rfl (pv_assign (v := .int _ _) rfl rfl) ?_
              refine xl_nil ?_
              refine xthen_normal ?_
              first
                | exact ⟨(i + 1, _, (out ++ [k ++ [n]] ++ [gr l i]), _, _), ⟨rfl, rfl, rfl, slv (by simp), rfl, rfl, trivial⟩, ⟨by (try simp only); omega, by have h := (hI.ins hs hw hk hil rfl hc6_9).row hs hw hk hil (fun h => by cases h); rw [if_pos h9_6] at h; exact h, m0_0, by simpa [fr_app, fr] using hO10_6, hX⟩, by (try simp only); omega⟩
                | exact ⟨(i + 1, _, (out ++ [k ++ [n]]), _, _), ⟨rfl, rfl, rfl, slv (by simp), rfl, rfl, trivial⟩, ⟨by (try simp only); omega, by have h := (hI.ins hs hw hk hil rfl hc6_9).row hs hw hk hil (fun h => by cases h); rw [if_neg (fun h2 => h2 h9_6), List.append_nil] at h; exact h, m0_0, by simpa [fr_app, fr] using hO7_5, hX⟩, by (try simp only); omega⟩
                | exact ⟨(i + 1, _, (out ++ [gr l i]), _, _), ⟨rfl, rfl, rfl, slv (by simp), rfl, rfl, trivial⟩, ⟨by (try simp only); omega, by have h := hI.row hs hw hk hil (by first | exact fun _ => hc6_9 | exact fun h => by cases h); rw [if_pos h9_6] at h; exact h, m0_0, by simpa [fr_app, fr] using hO10_6, hX⟩, by (try simp only); omega⟩
                | exact ⟨(i + 1, _, out, _, _), ⟨rfl, rfl, rfl, slv (by simp), rfl, rfl, trivial⟩, ⟨by (try simp only); omega, by have h := hI.row hs hw hk hil (by first | exact fun _ => hc6_9 | exact fun h => by cases h); rw [if_neg (fun h2 => h2 h9_6), List.append_nil] at h; exact h, m0_0, by simpa [fr_app, fr] using ho, hX⟩, by (try simp only); omega⟩
          · skip
            refine xp_pure (i := 10) rfl (by kernel_rfl) (by kernel_rfl) rfl rfl rfl (pv_pick_t (v := .bool _) rfl rfl rfl) ?_
            refine xp_done (by kernel_rfl) ?_
            refine xthen_normal ?_
            refine xc_cond_f rfl ?_
            refine xc_skip ?_
            refine xthen_normal ?_
            refine xc_seq ?_
            obtain ⟨ba, off, hae⟩ := (hx.ext hX).at
            refine xp_start rfl (by repeat (first | with_reducible exact np_fin | with_reducible exact np_ret | with_reducible refine np_then ?_ | with_reducible refine np_block ?_)) (by kernel_rfl) ?_
            refine xp_pure (i := 0) rfl (by kernel_rfl) (by kernel_rfl) rfl rfl rfl (pv_move (v := .slice _ _ _) rfl rfl) ?_
            refine xp_pure (i := 1) rfl (by kernel_rfl) (by kernel_rfl) rfl rfl rfl (pv_move (v := .int _ _) rfl rfl) ?_
            refine xp_pure (i := 2) rfl (by kernel_rfl) (by kernel_rfl) rfl rfl rfl (pv_indexAddr_l rfl (sl_eq (hae (by omega)).1) rfl (by omega)) ?_
            refine xp_pure (i := 3) rfl (by kernel_rfl) (by kernel_rfl) rfl rfl rfl (pv_fieldAddr rfl rfl) ?_
            refine xp_light (i := 4) rfl (by kernel_rfl) (by kernel_rfl) rfl rfl rfl (lv_load (v := .agg _) rfl rfl (by exact ld_rky (hae (by omega)).2 hw (by decide) (by omega))) ?_
            refine xp_light (i := 5) rfl (by kernel_rfl) (by kernel_rfl) rfl rfl rfl (lv_load (v := .agg _) rfl rfl (by exact ld_ints m0_0 hk)) ?_
            refine xp_ndec (i := 6) rfl (by kernel_rfl) (by kernel_rfl) rfl rfl rfl (pv_neq_g (ky (gr l i)) k rfl rfl rfl hk4 hk) (fun h9_6 => ?_) (fun h9_6 => ?_)
            · skip
              refine xp_done (by kernel_rfl) ?_
              refine xthen_normal ?_
              refine xc_cond_f rfl ?_
              refine xc_skip ?_
              refine xblock_normal ?_
              refine xthen_normal ?_
              refine xc_region ?_
              refine xl_pure rfl rfl rfl (pv_move (v := .int _ _) rfl rfl) ?_
              refine xl_pure rfl rfl rfl (pv_add rfl rfl rfl (fit_i64 (by omega))) ?_
              refine xl_pure rfl rfl rfl (pv_assign (v := .int _ _) rfl rfl) ?_
              refine xl_nil ?_
              refine xthen_normal ?_
              first
                | exact ⟨(i + 1, _, (out ++ [k ++ [n]] ++ [gr l i]), _, _), ⟨rfl, rfl, rfl, slv (by simp), rfl, rfl, trivial⟩, ⟨by (try simp only); omega, by have h := (hI.ins hs hw hk hil rfl hc6_9).row hs hw hk hil (fun h => by cases h); rw [if_pos h9_6] at h; exact h, m0_0, by simpa [fr_app, fr] using hO10_6, hX⟩, by (try simp only); omega⟩
                | exact ⟨(i + 1, _, (out ++ [k ++ [n]]), _, _), ⟨rfl, rfl, rfl, slv (by simp), rfl, rfl, trivial⟩, ⟨by (try simp only); omega, by have h := (hI.ins hs hw hk hil rfl hc6_9).row hs hw hk hil (fun h => by cases h); rw [if_neg (fun h2 => h2 h9_6), List.append_nil] at h; exact h, m0_0, by simpa [fr_app, fr] using hO7_5, hX⟩, by (try simp only); omega⟩
                | exact ⟨(i + 1, _, (out ++ [gr l i]), _, _), ⟨rfl, rfl, rfl, slv (by simp), rfl, rfl, trivial⟩, ⟨by (try simp only); omega, by have h := hI.row hs hw hk hil (by first | exact fun _ => hc6_9 | exact fun h => by cases h); rw [if_pos h9_6] at h; exact h, m0_0, by simpa [fr_app, fr] using hO10_6, hX⟩, by (try simp only); omega⟩
                | exact ⟨(i + 1, _, out, _, _), ⟨rfl, rfl, rfl, slv (by simp), rfl, rfl, trivial⟩, ⟨by (try simp only); omega, by have h := hI.row hs hw hk hil (by first | exact fun _ => hc6_9 | exact fun h => by cases h); rw [if_neg (fun h2 => h2 h9_6), List.append_nil] at h; exact h, m0_0, by simpa [fr_app, fr] using ho, hX⟩, by (try simp only); omega⟩
            · skip
              refine xp_done (by kernel_rfl) ?_
              refine xthen_normal ?_
              refine xc_cond_t rfl ?_
              obtain ⟨ba, off, hae⟩ := (hx.ext hX).at
              refine xc_region ?_
              refine xl_pure rfl rfl rfl (pv_move (v := .slice _ _ _) rfl rfl) ?_
              refine xl_pure rfl rfl rfl (pv_move (v := .slice _ _ _) rfl rfl) ?_
              refine xl_pure rfl rfl rfl (pv_move (v := .int _ _) rfl rfl) ?_
              refine xl_pure rfl rfl rfl (pv_indexAddr_l rfl (sl_eq (hae (by omega)).1) rfl (by omega)) ?_
              refine xl_light rfl rfl rfl (lv_load (v := .agg _) rfl rfl (by exact ld_row' (hae (by omega)).2 hw (by omega))) ?_
              refine xl_heavy rfl rfl rfl (hv_buildSlice (cs := ints (gr l i)) rfl rfl (parts1 (ints_ten hr5)) rfl rfl) ?_
              rintro v10_5 H10_5 ⟨b10_5, rfl, hN10_5⟩
              have gb10_5 := hX.fresh hN10_5
              have nm0_0_10_5 := m0_0.apart hN10_5
              have pm10_5_ho := ho.apartN hN10_5
              have m0_0 := m0_0.ext hN10_5.ext
              have ho := ho.ext hN10_5.ext
              have hX := hX.trans hN10_5.ext
              have m10_5 := hN10_5.blk
              refine xl_heavy rfl rfl rfl (hv_append (size := 5) rfl rfl ho rfl m10_5.row (by simpa using ints_ten hr5) (ints_mem _) rfl (by decide) (by omega) (by omega) hX.size) ?_
              rintro v10_6 H10_6 ⟨hO10_6, hG10_6, -, hB10_6⟩
              have m0_0 := m0_0.offT ho hG10_6 rfl
              have hX := ho.grown hX hG10_6 (Nat.le_refl _)
              obtain ⟨a10_6, c10_6, rfl⟩ := hO10_6.val
              refine xl_pure rfl rfl rfl (pv_assign (v := .slice _ _ _) rfl rfl) ?_
              refine xl_nil ?_
              refine xblock_normal ?_
              refine xthen_normal ?_
              refine xc_region ?_
              refine xl_pure rfl rfl rfl (pv_move (v := .int _ _) rfl rfl) ?_
              refine xl_pure rfl rfl rfl (pv_add rfl rfl rfl (fit_i64 (by omega))) ?_
              refine xl_pure rfl rfl rfl (pv_assign (v := .int _ _) rfl rfl) ?_
              refine xl_nil ?_
              refine xthen_normal ?_
              first
                | exact ⟨(i + 1, _, (out ++ [k ++ [n]] ++ [gr l i]), _, _), ⟨rfl, rfl, rfl, slv (by simp), rfl, rfl, trivial⟩, ⟨by (try simp only); omega, by have h := (hI.ins hs hw hk hil rfl hc6_9).row hs hw hk hil (fun h => by cases h); rw [if_pos h9_6] at h; exact h, m0_0, by simpa [fr_app, fr] using hO10_6, hX⟩, by (try simp only); omega⟩
                | exact ⟨(i + 1, _, (out ++ [k ++ [n]]), _, _), ⟨rfl, rfl, rfl, slv (by simp), rfl, rfl, trivial⟩, ⟨by (try simp only); omega, by have h := (hI.ins hs hw hk hil rfl hc6_9).row hs hw hk hil (fun h => by cases h); rw [if_neg (fun h2 => h2 h9_6), List.append_nil] at h; exact h, m0_0, by simpa [fr_app, fr] using hO7_5, hX⟩, by (try simp only); omega⟩
                | exact ⟨(i + 1, _, (out ++ [gr l i]), _, _), ⟨rfl, rfl, rfl, slv (by simp), rfl, rfl, trivial⟩, ⟨by (try simp only); omega, by have h := hI.row hs hw hk hil (by first | exact fun _ => hc6_9 | exact fun h => by cases h); rw [if_pos h9_6] at h; exact h, m0_0, by simpa [fr_app, fr] using hO10_6, hX⟩, by (try simp only); omega⟩
                | exact ⟨(i + 1, _, out, _, _), ⟨rfl, rfl, rfl, slv (by simp), rfl, rfl, trivial⟩, ⟨by (try simp only); omega, by have h := hI.row hs hw hk hil (by first | exact fun _ => hc6_9 | exact fun h => by cases h); rw [if_neg (fun h2 => h2 h9_6), List.append_nil] at h; exact h, m0_0, by simpa [fr_app, fr] using ho, hX⟩, by (try simp only); omega⟩
        · skip
          refine xp_pure (i := 1) rfl (by kernel_rfl) (by kernel_rfl) rfl rfl rfl (pv_not rfl rfl) ?_
          refine xp_pure (i := 2) rfl (by kernel_rfl) (by kernel_rfl) rfl rfl rfl (pv_move (v := .bool _) rfl rfl) ?_
          refine xp_skip (i := 3) rfl (by kernel_rfl) (by kernel_rfl) rfl rfl rfl ?_
          refine xp_skip (i := 4) rfl (by kernel_rfl) (by kernel_rfl) rfl rfl rfl ?_
          refine xp_skip (i := 5) rfl (by kernel_rfl) (by kernel_rfl) rfl rfl rfl ?_
          refine xp_skip (i := 6) rfl (by kernel_rfl) (by kernel_rfl) rfl rfl rfl ?_
          refine xp_skip (i := 7) rfl (by kernel_rfl) (by kernel_rfl) rfl rfl rfl ?_
          refine xp_skip (i := 8) rfl (by kernel_rfl) (by kernel_rfl) rfl rfl rfl ?_
          refine xp_skip (i := 9) rfl (by kernel_rfl) (by kernel_rfl) rfl rfl rfl ?_
          refine xp_pure (i := 10) rfl (by kernel_rfl) (by kernel_rfl) rfl rfl rfl (pv_pick_f (v := .bool _) rfl rfl rfl) ?_
          refine xp_done (by kernel_rfl) ?_
          refine xthen_normal ?_
          refine xc_cond_f rfl ?_
          refine xc_skip ?_
          refine xthen_normal ?_
          refine xc_seq ?_
          obtain ⟨ba, off, hae⟩ := (hx.ext hX).at
          refine xp_start rfl (by repeat (first | with_reducible exact np_fin | with_reducible exact np_ret | with_reducible refine np_then ?_ | with_reducible refine np_block ?_)) (by kernel_rfl) ?_
          refine xp_pure (i := 0) rfl (by kernel_rfl) (by kernel_rfl) rfl rfl rfl (pv_move (v := .slice _ _ _) rfl rfl) ?_
          refine xp_pure (i := 1) rfl (by kernel_rfl) (by kernel_rfl) rfl rfl rfl (pv_move (v := .int _ _) rfl rfl) ?_
          refine xp_pure (i := 2) rfl (by kernel_rfl) (by kernel_rfl) rfl rfl rfl (pv_indexAddr_l rfl (sl_eq (hae (by omega)).1) rfl (by omega)) ?_
          refine xp_pure (i := 3) rfl (by kernel_rfl) (by kernel_rfl) rfl rfl rfl (pv_fieldAddr rfl rfl) ?_
          refine xp_light (i := 4) rfl (by kernel_rfl) (by kernel_rfl) rfl rfl rfl (lv_load (v := .agg _) rfl rfl (by exact ld_rky (hae (by omega)).2 hw (by decide) (by omega))) ?_
          refine xp_light (i := 5) rfl (by kernel_rfl) (by kernel_rfl) rfl rfl rfl (lv_load (v := .agg _) rfl rfl (by exact ld_ints m0_0 hk)) ?_
          refine xp_ndec (i := 6) rfl (by kernel_rfl) (by kernel_rfl) rfl rfl rfl (pv_neq_g (ky (gr l i)) k rfl rfl rfl hk4 hk) (fun h9_6 => ?_) (fun h9_6 => ?_)
          · skip
            refine xp_done (by kernel_rfl) ?_
            refine xthen_normal ?_
            refine xc_cond_f rfl ?_
            refine xc_skip ?_
            refine xblock_normal ?_
            refine xthen_normal ?_
            refine xc_region ?_
            refine xl_pure rfl rfl rfl (pv_move (v := .int _ _) rfl rfl) ?_
            refine xl_pure rfl rfl rfl (pv_add rfl rfl rfl (fit_i64 (by omega))) ?_
            refine xl_pure rfl rfl rfl (pv_assign (v := .int _ _) rfl rfl) ?_
            refine xl_nil ?_
            refine xthen_normal ?_
            first
              | exact ⟨(i + 1, _, (out ++ [k ++ [n]] ++ [gr l i]), _, _), ⟨rfl, rfl, rfl, slv (by simp), rfl, rfl, trivial⟩, ⟨by (try simp only); omega, by have h := (hI.ins hs hw hk hil rfl hc6_9).row hs hw hk hil (fun h => by cases h); rw [if_pos h9_6] at h; exact h, m0_0, by simpa [fr_app, fr] using hO10_6, hX⟩, by (try simp only); omega⟩
              | exact ⟨(i + 1, _, (out ++ [k ++ [n]]), _, _), ⟨rfl, rfl, rfl, slv (by simp), rfl, rfl, trivial⟩, ⟨by (try simp only); omega, by have h := (hI.ins hs hw hk hil rfl hc6_9).row hs hw hk hil (fun h => by cases h); rw [if_neg (fun h2 => h2 h9_6), List.append_nil] at h; exact h, m0_0, by simpa [fr_app, fr] using hO7_5, hX⟩, by (try simp only); omega⟩
              | exact ⟨(i + 1, _, (out ++ [gr l i]), _, _), ⟨rfl, rfl, rfl, slv (by simp), rfl, rfl, trivial⟩, ⟨by (try simp only); omega, by have h := hI.row hs hw hk hil (by first | exact fun _ => hc6_9 | exact fun h => by cases h); rw [if_pos h9_6] at h; exact h, m0_0, by simpa [fr_app, fr] using hO10_6, hX⟩, by (try simp only); omega⟩
              | exact ⟨(i + 1, _, out, _, _), ⟨rfl, rfl, rfl, slv (by simp), rfl, rfl, trivial⟩, ⟨by (try simp only); omega, by have h := hI.row hs hw hk hil (by first | exact fun _ => hc6_9 | exact fun h => by cases h); rw [if_neg (fun h2 => h2 h9_6), List.append_nil] at h; exact h, m0_0, by simpa [fr_app, fr] using ho, hX⟩, by (try simp only); omega⟩
          · skip
            refine xp_done (by kernel_rfl) ?_
            refine xthen_normal ?_
            refine xc_cond_t rfl ?_
            obtain ⟨ba, off, hae⟩ := (hx.ext hX).at
            refine xc_region ?_
            refine xl_pure rfl rfl rfl (pv_move (v := .slice _ _ _) rfl rfl) ?_
            refine xl_pure rfl rfl rfl (pv_move (v := .slice _ _ _) rfl rfl) ?_
            refine xl_pure rfl rfl rfl (pv_move (v := .int _ _) rfl rfl) ?_
            refine xl_pure rfl rfl rfl (pv_indexAddr_l rfl (sl_eq (hae (by omega)).1) rfl (by omega)) ?_
            refine xl_light rfl rfl rfl (lv_load (v := .agg _) rfl rfl (by exact ld_row' (hae (by omega)).2 hw (by omega))) ?_
            refine xl_heavy rfl rfl rfl (hv_buildSlice (cs := ints (gr l i)) rfl rfl (parts1 (ints_ten hr5)) rfl rfl) ?_
            rintro v10_5 H10_5 ⟨b10_5, rfl, hN10_5⟩
            have gb10_5 := hX.fresh hN10_5
            have nm0_0_10_5 := m0_0.apart hN10_5
            have pm10_5_ho := ho.apartN hN10_5
            have m0_0 := m0_0.ext hN10_5.ext
            have ho := ho.ext hN10_5.ext
            have hX := hX.trans hN10_5.ext
            have m10_5 := hN10_5.blk
            refine xl_heavy rfl rfl rfl (hv_append (size := 5) rfl rfl ho rfl m10_5.row (by simpa using ints_ten hr5) (ints_mem _) rfl (by decide) (by omega) (by omega) hX.size) ?_
            rintro v10_6 H10_6 ⟨hO10_6, hG10_6, -, hB10_6⟩
            have m0_0 := m0_0.offT ho hG10_6 rfl
            have hX := ho.grown hX hG10_6 (Nat.le_refl _)
            obtain ⟨a10_6, c10_6, rfl⟩ := hO10_6.val
            refine xl_pure rfl rfl rfl (pv_assign (v := .slice _ _ _) rfl rfl) ?_
            refine xl_nil ?_
            refine xblock_normal ?_
            refine xthen_normal ?_
            refine xc_region ?_
            refine xl_pure rfl rfl rfl (pv_move (v := .int _ _) rfl rfl) ?_
            refine xl_pure rfl rfl rfl (pv_add rfl rfl rfl (fit_i64 (by omega))) ?_
            refine xl_pure rfl rfl rfl (pv_assign (v := .int _ _) rfl rfl) ?_
            refine xl_nil ?_
            refine xthen_normal ?_
            first
              | exact ⟨(i + 1, _, (out ++ [k ++ [n]] ++ [gr l i]), _, _), ⟨rfl, rfl, rfl, slv (by simp), rfl, rfl, trivial⟩, ⟨by (try simp only); omega, by have h := (hI.ins hs hw hk hil rfl hc6_9).row hs hw hk hil (fun h => by cases h); rw [if_pos h9_6] at h; exact h, m0_0, by simpa [fr_app, fr] using hO10_6, hX⟩, by (try simp only); omega⟩
              | exact ⟨(i + 1, _, (out ++ [k ++ [n]]), _, _), ⟨rfl, rfl, rfl, slv (by simp), rfl, rfl, trivial⟩, ⟨by (try simp only); omega, by have h := (hI.ins hs hw hk hil rfl hc6_9).row hs hw hk hil (fun h => by cases h); rw [if_neg (fun h2 => h2 h9_6), List.append_nil] at h; exact h, m0_0, by simpa [fr_app, fr] using hO7_5, hX⟩, by (try simp only); omega⟩
              | exact ⟨(i + 1, _, (out ++ [gr l i]), _, _), ⟨rfl, rfl, rfl, slv (by simp), rfl, rfl, trivial⟩, ⟨by (try simp only); omega, by have h := hI.row hs hw hk hil (by first | exact fun _ => hc6_9 | exact fun h => by cases h); rw [if_pos h9_6] at h; exact h, m0_0, by simpa [fr_app, fr] using hO10_6, hX⟩, by (try simp only); omega⟩
              | exact ⟨(i + 1, _, out, _, _), ⟨rfl, rfl, rfl, slv (by simp), rfl, rfl, trivial⟩, ⟨by (try simp only); omega, by have h := hI.row hs hw hk hil (by first | exact fun _ => hc6_9 | exact fun h => by cases h); rw [if_neg (fun h2 => h2 h9_6), List.append_nil] at h; exact h, m0_0, by simpa [fr_app, fr] using ho, hX⟩, by (try simp only); omega⟩
      · skip
        refine xl_nil ?_
        refine xthen_normal ?_
        refine xc_cond_f rfl ?_
        refine xc_exit ?_
        refine xthen_exit ?_
        refine xthen_exit ?_
        refine xblock_same ?_
        refine xthen_normal ?_
        refine xc_seq ?_
        refine xc_seq ?_
        obtain rfl : i = l.length := by omega
        refine xc_region ?_
        refine xl_pure rfl rfl rfl (pv_move (v := .bool _) rfl rfl) ?_
        cases dn
        · skip
          refine xl_pure rfl rfl rfl (pv_not rfl rfl) ?_
          refine xl_nil ?_
          refine xthen_normal ?_
          refine xc_cond_t rfl ?_
          refine xc_region ?_
          refine xl_pure rfl rfl rfl (pv_move (v := .slice _ _ _) rfl rfl) ?_
          refine xl_light rfl rfl rfl (lv_load (v := .agg _) rfl rfl (by exact ld_ints m0_0 hk)) ?_
          refine xl_pure rfl rfl rfl (pv_move (v := .int _ _) rfl rfl) ?_
          refine xl_pure rfl rfl rfl (pv_build_pair (xs := ints k) (ys := [.int .i64 n]) rfl rfl rfl rfl rfl (by rw [ints_ten hk]; rfl) (by rw [ints_ten hk]; rfl) (by rw [ints_ten hk]; rfl)) ?_
          refine xl_heavy rfl rfl rfl (hv_buildSlice (cs := ints (k ++ [n])) rfl rfl (by rw [← ints_app]; exact parts1 (by simp [ints, hk])) rfl rfl) ?_
          rintro v12_4 H12_4 ⟨b12_4, rfl, hN12_4⟩
          have gb12_4 := hX.fresh hN12_4
          have nm0_0_12_4 := m0_0.apart hN12_4
          have pm12_4_ho := ho.apartN hN12_4
          have m0_0 := m0_0.ext hN12_4.ext
          have ho := ho.ext hN12_4.ext
          have hX := hX.trans hN12_4.ext
          have m12_4 := hN12_4.blk
          refine xl_heavy rfl rfl rfl (hv_append (size := 5) rfl rfl ho rfl m12_4.row (by simpa using ints_ten hk5) (ints_mem _) rfl (by decide) (by omega) (by omega) hX.size) ?_
          rintro v12_5 H12_5 ⟨hO12_5, hG12_5, -, hB12_5⟩
          have m0_0 := m0_0.offT ho hG12_5 rfl
          have hX := ho.grown hX hG12_5 (Nat.le_refl _)
          obtain ⟨a12_5, c12_5, rfl⟩ := hO12_5.val
          refine xl_pure rfl rfl rfl (pv_assign (v := .slice _ _ _) rfl rfl) ?_
          refine xl_nil ?_
          refine xthen_normal ?_
          refine xc_seq ?_
          refine xc_region ?_
          refine xl_pure rfl rfl rfl (pv_move (v := .slice _ _ _) rfl rfl) ?_
          refine xl_pure rfl rfl rfl (pv_assign (v := .slice _ _ _) rfl rfl) ?_
          refine xl_nil ?_
          refine xthen_normal ?_
          refine xc_ret ?_
          refine fin_ret (res1 (v := .slice _ _ _) rfl rfl) ?_
          have hdn := hI.done hs hw hk
          have hwo := hI.wide hw hk
          first
            | (rw [if_pos rfl] at hdn; exact ⟨a12_5, c12_5, slv (by rw [← hdn]; simp), by rw [← hdn]; exact own_rowsT (hwo.app fun r hr => by rw [List.mem_singleton] at hr; rw [hr]; exact hk5) (by simpa [fr_app, fr] using hO12_5), hX⟩)
            | (rw [if_neg (by decide)] at hdn; exact ⟨va, vc, slv (by rw [← hdn]), by rw [← hdn]; exact own_rowsT hwo ho, hX⟩)
        · skip
          refine xl_pure rfl rfl rfl (pv_not rfl rfl) ?_
          refine xl_nil ?_
          refine xthen_normal ?_
          refine xc_cond_f rfl ?_
          refine xc_skip ?_
          refine xthen_normal ?_
          refine xc_seq ?_
          refine xc_region ?_
          refine xl_pure rfl rfl rfl (pv_move (v := .slice _ _ _) rfl rfl) ?_
          refine xl_pure rfl rfl rfl (pv_assign (v := .slice _ _ _) rfl rfl) ?_
          refine xl_nil ?_
          refine xthen_normal ?_
          refine xc_ret ?_
          refine fin_ret (res1 (v := .slice _ _ _) rfl rfl) ?_
          have hdn := hI.done hs hw hk
          have hwo := hI.wide hw hk
          first
            | (rw [if_pos rfl] at hdn; exact ⟨a12_5, c12_5, slv (by rw [← hdn]; simp), by rw [← hdn]; exact own_rowsT (hwo.app fun r hr => by rw [List.mem_singleton] at hr; rw [hr]; exact hk5) (by simpa [fr_app, fr] using hO12_5), hX⟩)
            | (rw [if_neg (by decide)] at hdn; exact ⟨va, vc, slv (by rw [← hdn]), by rw [← hdn]; exact own_rowsT hwo ho, hX⟩)
  · skip
    refine xl_pure rfl rfl rfl (pv_assign (v := .bool _) rfl rfl) ?_
    refine xl_nil ?_
    refine xthen_normal ?_
    refine xc_seq ?_
    refine xc_seq ?_
    refine xc_region ?_
    refine xl_pure rfl rfl rfl (pv_assign (v := .int _ _) rfl rfl) ?_
    refine xl_nil ?_
    refine xthen_normal ?_
    refine xc_block ?_
    refine xc_loop (τ := Nat × Bool × List (List Int) × Option Addr × Nat) (fun t => [(0, .slice a l.length c), (2, .int .i64 n), (4, .pointer (some ⟨b0_0, 0, none⟩)), (7, .slice t.2.2.2.1 t.2.2.1.length t.2.2.2.2), (8, .bool t.2.1), (9, .int .i64 (t.1 : Nat))]) (fun t H' => (t.1 ≤ l.length) ∧ (SetI l k n t.1 t.2.1 t.2.2.1) ∧ (Blk H' b0_0 (ints k) 37) ∧ (Own H' H.size 99 5 (.slice t.2.2.2.1 t.2.2.1.length t.2.2.2.2) t.2.2.1.length (fr t.2.2.1)) ∧ (Ext H H')) (fun t H' => l.length - t.1) (0, false, [], none, 0) ?_ ?_ ?_
    · exact ⟨rfl, rfl, rfl, rfl, rfl, rfl, trivial⟩
    · skip
      exact ⟨Nat.zero_le _, .inl ⟨rfl, h2_1, Nat.zero_le _, rfl⟩, m0_0, by simpa [fr] using Own.nil _ H.size 99 5, hX⟩
    · intro σ
      clear hX m0_0
      rintro ⟨i, dn, out, va, vc⟩ Hl4 ⟨hi, hI, m0_0, ho, hX⟩
      replace hi : i ≤ l.length := hi
      replace hI : SetI l k n i dn out := hI
      replace m0_0 : Blk Hl4 b0_0 (ints k) 37 := m0_0
      replace ho : Own Hl4 H.size 99 5 (.slice va out.length vc) out.length (fr out) := ho
      replace hX : Ext H Hl4 := hX
      obtain ⟨ba, off, hae⟩ := (hx.ext hX).at
      have hol := hI.len hi
      show XC _ _ _ (upds σ [(0, .slice a l.length c), (2, .int .i64 n), (4, .pointer (some ⟨b0_0, 0, none⟩)), (7, .slice va out.length vc), (8, .bool dn), (9, .int .i64 (i : Nat))]) _
      refine xc_seq ?_
      refine xc_seq ?_
      refine xc_region ?_
      refine xl_pure rfl rfl rfl (pv_move (v := .int _ _) rfl rfl) ?_
      refine xl_pure rfl rfl rfl (pv_move (v := .slice _ _ _) rfl rfl) ?_
      refine xl_pure rfl rfl rfl (pv_len_l rfl rfl) ?_
      refine xl_dec rfl rfl rfl (pv_lss rfl rfl rfl) (fun h4_3 => ?_) (fun h4_3 => ?_)
      · skip
        refine xl_nil ?_
        refine xthen_normal ?_
        refine xc_cond_t rfl ?_
        refine xc_skip ?_
        refine xthen_normal ?_
        refine xc_seq ?_
        refine xc_block ?_
        refine xc_seq ?_
        refine xc_seq ?_
        have hil : i < l.length := by omega
        have hr5 := hw.get hil
        have hk4 := ky_len hr5 (by decide)
        refine xp_start rfl (by repeat (first | with_reducible exact np_fin | with_reducible exact np_ret | with_reducible refine np_then ?_ | with_reducible refine np_block ?_)) (by kernel_rfl) ?_
        refine xp_pure (i := 0) rfl (by kernel_rfl) (by kernel_rfl) rfl rfl rfl (pv_move (v := .bool _) rfl rfl) ?_
        cases dn
        · skip
          refine xp_pure (i := 1) rfl (by kernel_rfl) (by kernel_rfl) rfl rfl rfl (pv_not rfl rfl) ?_
          refine xp_pure (i := 2) rfl (by kernel_rfl) (by kernel_rfl) rfl rfl rfl (pv_move (v := .bool _) rfl rfl) ?_
          refine xp_light (i := 3) rfl (by kernel_rfl) (by kernel_rfl) rfl rfl rfl (lv_load (v := .agg _) rfl rfl (by exact ld_ints m0_0 hk)) ?_
          refine xp_pure (i := 4) rfl (by kernel_rfl) (by kernel_rfl) rfl rfl rfl (pv_move (v := .slice _ _ _) rfl rfl) ?_
          refine xp_pure (i := 5) rfl (by kernel_rfl) (by kernel_rfl) rfl rfl rfl (pv_move (v := .int _ _) rfl rfl) ?_
          refine xp_pure (i := 6) rfl (by kernel_rfl) (by kernel_rfl) rfl rfl rfl (pv_indexAddr_l rfl (sl_eq (hae (by omega)).1) rfl (by omega)) ?_
          refine xp_pure (i := 7) rfl (by kernel_rfl) (by kernel_rfl) rfl rfl rfl (pv_fieldAddr rfl rfl) ?_
          refine xp_light (i := 8) rfl (by kernel_rfl) (by kernel_rfl) rfl rfl rfl (lv_load (v := .agg _) rfl rfl (by exact ld_rky (hae (by omega)).2 hw (by decide) (by omega))) ?_
          refine xp_heavy (i := 9) (by kernel_rfl) ?_
          refine xph_val rfl rfl rfl rfl (hv_call (g := 80) rfl rfl (c80k k (ky (gr l i)) hk hk4) rfl) (pd (by kernel_rfl) (pd (by kernel_rfl) pn)) ?_
          rintro v6_9 H6_9 ⟨hv6_9, hE6_9⟩
          have m0_0 := m0_0.ext hE6_9
          have ho := ho.ext hE6_9
          have hX := hX.trans hE6_9
          refine ⟨okn, ?_⟩
          rcases hv6_9 with ⟨hc6_9, rfl⟩ | ⟨hc6_9, rfl⟩
          · skip
            refine xp_pure (i := 10) rfl (by kernel_rfl) (by kernel_rfl) rfl rfl rfl (pv_pick_t (v := .bool _) rfl rfl rfl) ?_
            refine xp_done (by kernel_rfl) ?_
            refine xthen_normal ?_
            refine xc_cond_t rfl ?_
            refine xc_seq ?_
            refine xc_region ?_
            refine xl_pure rfl rfl rfl (pv_move (v := .slice _ _ _) rfl rfl) ?_
            refine xl_light rfl rfl rfl (lv_load (v := .agg _) rfl rfl (by exact ld_ints m0_0 hk)) ?_
            refine xl_pure rfl rfl rfl (pv_move (v := .int _ _) rfl rfl) ?_
            refine xl_pure rfl rfl rfl (pv_build_pair (xs := ints k) (ys := [.int .i64 n]) rfl rfl rfl rfl rfl (by rw [ints_ten hk]; rfl) (by rw [ints_ten hk]; rfl) (by rw [ints_ten hk]; rfl)) ?_
            refine xl_heavy rfl rfl rfl (hv_buildSlice (cs := ints (k ++ [n])) rfl rfl (by rw [← ints_app]; exact parts1 (by simp [ints, hk])) rfl rfl) ?_
            rintro v7_4 H7_4 ⟨b7_4, rfl, hN7_4⟩
            have gb7_4 := hX.fresh hN7_4
            have nm0_0_7_4 := m0_0.apart hN7_4
            have pm7_4_ho := ho.apartN hN7_4
            have m0_0 := m0_0.ext hN7_4.ext
            have ho := ho.ext hN7_4.ext
            have hX := hX.trans hN7_4.ext
            have m7_4 := hN7_4.blk
            refine xl_heavy rfl rfl rfl (hv_append (size := 5) rfl rfl ho rfl m7_4.row (by simpa using ints_ten hk5) (ints_mem _) rfl (by decide) (by omega) (by omega) hX.size) ?_
            rintro v7_5 H7_5 ⟨hO7_5, hG7_5, -, hB7_5⟩
            have m0_0 := m0_0.offT ho hG7_5 rfl
            have hX := ho.grown hX hG7_5 (Nat.le_refl _)
            obtain ⟨a7_5, c7_5, rfl⟩ := hO7_5.val
            refine xl_pure rfl rfl rfl (pv_assign (v := .slice _ _ _) rfl rfl) ?_
            refine xl_nil ?_
            refine xthen_normal ?_
            refine xc_region ?_
            refine xl_pure rfl rfl rfl (pv_assign (v := .bool _) rfl rfl) ?_
            refine xl_nil ?_
            refine xthen_normal ?_
            refine xc_seq ?_
            obtain ⟨ba, off, hae⟩ := (hx.ext hX).at
            refine xp_start rfl (by repeat (first | with_reducible exact np_fin | with_reducible exact np_ret | with_reducible refine np_then ?_ | with_reducible refine np_block ?_)) (by kernel_rfl) ?_
            refine xp_pure (i := 0) rfl (by kernel_rfl) (by kernel_rfl) rfl rfl rfl (pv_move (v := .slice _ _ _) rfl rfl) ?_
            refine xp_pure (i := 1) rfl (by kernel_rfl) (by kernel_rfl) rfl rfl rfl (pv_move (v := .int _ _) rfl rfl) ?_
            refine xp_pure (i := 2) rfl (by kernel_rfl) (by kernel_rfl) rfl rfl rfl (pv_indexAddr_l rfl (sl_eq (hae (by omega)).1) rfl (by omega)) ?_
            refine xp_pure (i := 3) rfl (by kernel_rfl) (by kernel_rfl) rfl rfl rfl (pv_fieldAddr rfl rfl) ?_
            refine xp_light (i := 4) rfl (by kernel_rfl) (by kernel_rfl) rfl rfl rfl (lv_load (v := .agg _) rfl rfl (by exact ld_rky (hae (by omega)).2 hw (by decide) (by omega))) ?_
            refine xp_light (i := 5) rfl (by kernel_rfl) (by kernel_rfl) rfl rfl rfl (lv_load (v := .agg _) rfl rfl (by exact ld_ints m0_0 hk)) ?_
            refine xp_ndec (i := 6) rfl (by kernel_rfl) (by kernel_rfl) rfl rfl rfl (pv_neq_g (ky (gr l i)) k rfl rfl rfl hk4 hk) (fun h9_6 => ?_) (fun h9_6 => ?_)
            · skip
              refine xp_done (by kernel_rfl) ?_
              refine xthen_normal ?_
              refine xc_cond_f rfl ?_
              refine xc_skip ?_
              refine xblock_normal ?_
              refine xthen_normal ?_
              refine xc_region ?_
              refine xl_pure rfl rfl rfl (pv_move (v := .int _ _) rfl rfl) ?_
              refine xl_pure rfl rfl rfl (pv_add rfl rfl rfl (fit_i64 (by omega))) ?_
              refine xl_pure rfl rfl rfl (pv_assign (v := .int _ _) rfl rfl) ?_
              refine xl_nil ?_
              refine xthen_normal ?_
              first
                | exact ⟨(i + 1, _, (out ++ [k ++ [n]] ++ [gr l i]), _, _), ⟨rfl, rfl, rfl, slv (by simp), rfl, rfl, trivial⟩, ⟨by (try simp only); omega, by have h := (hI.ins hs hw hk hil rfl hc6_9).row hs hw hk hil (fun h => by cases h); rw [if_pos h9_6] at h; exact h, m0_0, by simpa [fr_app, fr] using hO10_6, hX⟩, by (try simp only); omega⟩
                | exact ⟨(i + 1, _, (out ++ [k ++ [n]]), _, _), ⟨rfl, rfl, rfl, slv (by simp), rfl, rfl, trivial⟩, ⟨by (try simp only); omega, by have h := (hI.ins hs hw hk hil rfl hc6_9).row hs hw hk hil (fun h => by cases h); rw [if_neg (fun h2 => h2 h9_6), List.append_nil] at h; exact h, m0_0, by simpa [fr_app, fr] using hO7_5, hX⟩, by (try simp only); omega⟩
                | exact ⟨(i + 1, _, (out ++ [gr l i]), _, _), ⟨rfl, rfl, rfl, slv (by simp), rfl, rfl, trivial⟩, ⟨by (try simp only); omega, by have h := hI.row hs hw hk hil (by first | exact fun _ => hc6_9 | exact fun h => by cases h); rw [if_pos h9_6] at h; exact h, m0_0, by simpa [fr_app, fr] using hO10_6, hX⟩, by (try simp only); omega⟩
                | exact ⟨(i + 1, _, out, _, _), ⟨rfl, rfl, rfl, slv (by simp), rfl, rfl, trivial⟩, ⟨by (try simp only); omega, by have h := hI.row hs hw hk hil (by first | exact fun _ => hc6_9 | exact fun h => by cases h); rw [if_neg (fun h2 => h2 h9_6), List.append_nil] at h; exact h, m0_0, by simpa [fr_app, fr] using ho, hX⟩, by (try simp only); omega⟩
            · skip
              refine xp_done (by kernel_rfl) ?_
              refine xthen_normal ?_
              refine xc_cond_t rfl ?_
              obtain ⟨ba, off, hae⟩ := (hx.ext hX).at
              refine xc_region ?_
              refine xl_pure rfl rfl rfl (pv_move (v := .slice _ _ _) rfl rfl) ?_
              refine xl_pure rfl rfl rfl (pv_move (v := .slice _ _ _) rfl rfl) ?_
              refine xl_pure rfl rfl rfl (pv_move (v := .int _ _) rfl rfl) ?_
              refine xl_pure rfl rfl rfl (pv_indexAddr_l rfl (sl_eq (hae (by omega)).1) rfl (by omega)) ?_
              refine xl_light rfl rfl rfl (lv_load (v := .agg _) rfl rfl (by exact ld_row' (hae (by omega)).2 hw (by omega))) ?_
              refine xl_heavy rfl rfl rfl (hv_buildSlice (cs := ints (gr l i)) rfl rfl (parts1 (ints_ten hr5)) rfl rfl) ?_
              rintro v10_5 H10_5 ⟨b10_5, rfl, hN10_5⟩
              have gb10_5 := hX.fresh hN10_5
              have nm0_0_10_5 := m0_0.apart hN10_5
              have pm10_5_hO7_5 := hO7_5.apartN hN10_5
              have m0_0 := m0_0.ext hN10_5.ext
              have hO7_5 := hO7_5.ext hN10_5.ext
              have hX := hX.trans hN10_5.ext
              have m10_5 := hN10_5.blk
              refine xl_heavy rfl rfl rfl (hv_append (size := 5) rfl rfl hO7_5 rfl m10_5.row (by simpa using ints_ten hr5) (ints_mem _) rfl (by decide) (by omega) (by omega) hX.size) ?_
              rintro v10_6 H10_6 ⟨hO10_6, hG10_6, -, hB10_6⟩
              have m0_0 := m0_0.offT hO7_5 hG10_6 rfl
              have hX := hO7_5.grown hX hG10_6 (Nat.le_refl _)
              obtain ⟨a10_6, c10_6, rfl⟩ := hO10_6.val
              refine xl_pure rfl rfl rfl (pv_assign (v := .slice _ _ _) rfl rfl) ?_
              refine xl_nil ?_
              refine xblock_normal ?_
              refine xthen_normal ?_
              refine xc_region ?_
              refine xl_pure rfl rfl rfl (pv_move (v := .int _ _) rfl rfl) ?_
              refine xl_pure rfl rfl rfl (pv_add rfl rfl rfl (fit_i64 (by omega))) ?_
              refine xl_pure rfl rfl rfl (pv_assign (v := .int _ _) rfl rfl) ?_
              refine xl_nil ?_
              refine xthen_normal ?_
              first
                | exact ⟨(i + 1, _, (out ++ [k ++ [n]] ++ [gr l i]), _, _), ⟨rfl, rfl, rfl, slv (by simp), rfl, rfl, trivial⟩, ⟨by (try simp only); omega, by have h := (hI.ins hs hw hk hil rfl hc6_9).row hs hw hk hil (fun h => by cases h); rw [if_pos h9_6] at h; exact h, m0_0, by simpa [fr_app, fr] using hO10_6, hX⟩, by (try simp only); omega⟩
                | exact ⟨(i + 1, _, (out ++ [k ++ [n]]), _, _), ⟨rfl, rfl, rfl, slv (by simp), rfl, rfl, trivial⟩, ⟨by (try simp only); omega, by have h := (hI.ins hs hw hk hil rfl hc6_9).row hs hw hk hil (fun h => by cases h); rw [if_neg (fun h2 => h2 h9_6), List.append_nil] at h; exact h, m0_0, by simpa [fr_app, fr] using hO7_5, hX⟩, by (try simp only); omega⟩
                | exact ⟨(i + 1, _, (out ++ [gr l i]), _, _), ⟨rfl, rfl, rfl, slv (by simp), rfl, rfl, trivial⟩, ⟨by (try simp only); omega, by have h := hI.row hs hw hk hil (by first | exact fun _ => hc6_9 | exact fun h => by cases h); rw [if_pos h9_6] at h; exact h, m0_0, by simpa [fr_app, fr] using hO10_6, hX⟩, by (try simp only); omega⟩
                | exact ⟨(i + 1, _, out, _, _), ⟨rfl, rfl, rfl, slv (by simp), rfl, rfl, trivial⟩, ⟨by (try simp only); omega, by have h := hI.row hs hw hk hil (by first | exact fun _ => hc6_9 | exact fun h => by cases h); rw [if_neg (fun h2 => h2 h9_6), List.append_nil] at h; exact h, m0_0, by simpa [fr_app, fr] using ho, hX⟩, by (try simp only); omega⟩
          · skip
            refine xp_pure (i := 10) rfl (by kernel_rfl) (by kernel_rfl) rfl rfl rfl (pv_pick_t (v := .bool _) rfl rfl rfl) ?_
            refine xp_done (by kernel_rfl) ?_
            refine xthen_normal ?_
            refine xc_cond_f rfl ?_
            refine xc_skip ?_
            refine xthen_normal ?_
            refine xc_seq ?_
            obtain ⟨ba, off, hae⟩ := (hx.ext hX).at
            refine xp_start rfl (by repeat (first | with_reducible exact np_fin | with_reducible exact np_ret | with_reducible refine np_then ?_ | with_reducible refine np_block ?_)) (by kernel_rfl) ?_
            refine xp_pure (i := 0) rfl (by kernel_rfl) (by kernel_rfl) rfl rfl rfl (pv_move (v := .slice _ _ _) rfl rfl) ?_
            refine xp_pure (i := 1) rfl (by kernel_rfl) (by kernel_rfl) rfl rfl rfl (pv_move (v := .int _ _) rfl rfl) ?_
            refine xp_pure (i := 2) rfl (by kernel_rfl) (by kernel_rfl) rfl rfl rfl (pv_indexAddr_l rfl (sl_eq (hae (by omega)).1) rfl (by omega)) ?_
            refine xp_pure (i := 3) rfl (by kernel_rfl) (by kernel_rfl) rfl rfl rfl (pv_fieldAddr rfl rfl) ?_
            refine xp_light (i := 4) rfl (by kernel_rfl) (by kernel_rfl) rfl rfl rfl (lv_load (v := .agg _) rfl rfl (by exact ld_rky (hae (by omega)).2 hw (by decide) (by omega))) ?_
            refine xp_light (i := 5) rfl (by kernel_rfl) (by kernel_rfl) rfl rfl rfl (lv_load (v := .agg _) rfl rfl (by exact ld_ints m0_0 hk)) ?_
            refine xp_ndec (i := 6) rfl (by kernel_rfl) (by kernel_rfl) rfl rfl rfl (pv_neq_g (ky (gr l i)) k rfl rfl rfl hk4 hk) (fun h9_6 => ?_) (fun h9_6 => ?_)
            · skip
              refine xp_done (by kernel_rfl) ?_
              refine xthen_normal ?_
              refine xc_cond_f rfl ?_
              refine xc_skip ?_
              refine xblock_normal ?_
              refine xthen_normal ?_
              refine xc_region ?_
              refine xl_pure rfl rfl rfl (pv_move (v := .int _ _) rfl rfl) ?_
              refine xl_pure rfl rfl rfl (pv_add rfl rfl rfl (fit_i64 (by omega))) ?_
              refine xl_pure rfl rfl rfl (pv_assign (v := .int _ _) rfl rfl) ?_
              refine xl_nil ?_
              refine xthen_normal ?_
              first
                | exact ⟨(i + 1, _, (out ++ [k ++ [n]] ++ [gr l i]), _, _), ⟨rfl, rfl, rfl, slv (by simp), rfl, rfl, trivial⟩, ⟨by (try simp only); omega, by have h := (hI.ins hs hw hk hil rfl hc6_9).row hs hw hk hil (fun h => by cases h); rw [if_pos h9_6] at h; exact h, m0_0, by simpa [fr_app, fr] using hO10_6, hX⟩, by (try simp only); omega⟩
                | exact ⟨(i + 1, _, (out ++ [k ++ [n]]), _, _), ⟨rfl, rfl, rfl, slv (by simp), rfl, rfl, trivial⟩, ⟨by (try simp only); omega, by have h := (hI.ins hs hw hk hil rfl hc6_9).row hs hw hk hil (fun h => by cases h); rw [if_neg (fun h2 => h2 h9_6), List.append_nil] at h; exact h, m0_0, by simpa [fr_app, fr] using hO7_5, hX⟩, by (try simp only); omega⟩
                | exact ⟨(i + 1, _, (out ++ [gr l i]), _, _), ⟨rfl, rfl, rfl, slv (by simp), rfl, rfl, trivial⟩, ⟨by (try simp only); omega, by have h := hI.row hs hw hk hil (by first | exact fun _ => hc6_9 | exact fun h => by cases h); rw [if_pos h9_6] at h; exact h, m0_0, by simpa [fr_app, fr] using hO10_6, hX⟩, by (try simp only); omega⟩
                | exact ⟨(i + 1, _, out, _, _), ⟨rfl, rfl, rfl, slv (by simp), rfl, rfl, trivial⟩, ⟨by (try simp only); omega, by have h := hI.row hs hw hk hil (by first | exact fun _ => hc6_9 | exact fun h => by cases h); rw [if_neg (fun h2 => h2 h9_6), List.append_nil] at h; exact h, m0_0, by simpa [fr_app, fr] using ho, hX⟩, by (try simp only); omega⟩
            · skip
              refine xp_done (by kernel_rfl) ?_
              refine xthen_normal ?_
              refine xc_cond_t rfl ?_
              obtain ⟨ba, off, hae⟩ := (hx.ext hX).at
              refine xc_region ?_
              refine xl_pure rfl rfl rfl (pv_move (v := .slice _ _ _) rfl rfl) ?_
              refine xl_pure rfl rfl rfl (pv_move (v := .slice _ _ _) rfl rfl) ?_
              refine xl_pure rfl rfl rfl (pv_move (v := .int _ _) rfl rfl) ?_
              refine xl_pure rfl rfl rfl (pv_indexAddr_l rfl (sl_eq (hae (by omega)).1) rfl (by omega)) ?_
              refine xl_light rfl rfl rfl (lv_load (v := .agg _) rfl rfl (by exact ld_row' (hae (by omega)).2 hw (by omega))) ?_
              refine xl_heavy rfl rfl rfl (hv_buildSlice (cs := ints (gr l i)) rfl rfl (parts1 (ints_ten hr5)) rfl rfl) ?_
              rintro v10_5 H10_5 ⟨b10_5, rfl, hN10_5⟩
              have gb10_5 := hX.fresh hN10_5
              have nm0_0_10_5 := m0_0.apart hN10_5
              have pm10_5_ho := ho.apartN hN10_5
              have m0_0 := m0_0.ext hN10_5.ext
              have ho := ho.ext hN10_5.ext
              have hX := hX.trans hN10_5.ext
              have m10_5 := hN10_5.blk
              refine xl_heavy rfl rfl rfl (hv_append (size := 5) rfl rfl ho rfl m10_5.row (by simpa using ints_ten hr5) (ints_mem _) rfl (by decide) (by omega) (by omega) hX.size) ?_
              rintro v10_6 H10_6 ⟨hO10_6, hG10_6, -, hB10_6⟩
              have m0_0 := m0_0.offT ho hG10_6 rfl
              have hX := ho.grown hX hG10_6 (Nat.le_refl _)
              obtain ⟨a10_6, c10_6, rfl⟩ := hO10_6.val
              refine xl_pure rfl rfl rfl (pv_assign (v := .slice _ _ _) rfl rfl) ?_
              refine xl_nil ?_
              refine xblock_normal ?_
              refine xthen_normal ?_
              refine xc_region ?_
              refine xl_pure rfl rfl rfl (pv_move (v := .int _ _) rfl rfl) ?_
              refine xl_pure rfl rfl rfl (pv_add rfl rfl rfl (fit_i64 (by omega))) ?_
              refine xl_pure rfl rfl rfl (pv_assign (v := .int _ _) rfl rfl) ?_
              refine xl_nil ?_
              refine xthen_normal ?_
              first
                | exact ⟨(i + 1, _, (out ++ [k ++ [n]] ++ [gr l i]), _, _), ⟨rfl, rfl, rfl, slv (by simp), rfl, rfl, trivial⟩, ⟨by (try simp only); omega, by have h := (hI.ins hs hw hk hil rfl hc6_9).row hs hw hk hil (fun h => by cases h); rw [if_pos h9_6] at h; exact h, m0_0, by simpa [fr_app, fr] using hO10_6, hX⟩, by (try simp only); omega⟩
                | exact ⟨(i + 1, _, (out ++ [k ++ [n]]), _, _), ⟨rfl, rfl, rfl, slv (by simp), rfl, rfl, trivial⟩, ⟨by (try simp only); omega, by have h := (hI.ins hs hw hk hil rfl hc6_9).row hs hw hk hil (fun h => by cases h); rw [if_neg (fun h2 => h2 h9_6), List.append_nil] at h; exact h, m0_0, by simpa [fr_app, fr] using hO7_5, hX⟩, by (try simp only); omega⟩
                | exact ⟨(i + 1, _, (out ++ [gr l i]), _, _), ⟨rfl, rfl, rfl, slv (by simp), rfl, rfl, trivial⟩, ⟨by (try simp only); omega, by have h := hI.row hs hw hk hil (by first | exact fun _ => hc6_9 | exact fun h => by cases h); rw [if_pos h9_6] at h; exact h, m0_0, by simpa [fr_app, fr] using hO10_6, hX⟩, by (try simp only); omega⟩
                | exact ⟨(i + 1, _, out, _, _), ⟨rfl, rfl, rfl, slv (by simp), rfl, rfl, trivial⟩, ⟨by (try simp only); omega, by have h := hI.row hs hw hk hil (by first | exact fun _ => hc6_9 | exact fun h => by cases h); rw [if_neg (fun h2 => h2 h9_6), List.append_nil] at h; exact h, m0_0, by simpa [fr_app, fr] using ho, hX⟩, by (try simp only); omega⟩
        · skip
          refine xp_pure (i := 1) rfl (by kernel_rfl) (by kernel_rfl) rfl rfl rfl (pv_not rfl rfl) ?_
          refine xp_pure (i := 2) rfl (by kernel_rfl) (by kernel_rfl) rfl rfl rfl (pv_move (v := .bool _) rfl rfl) ?_
          refine xp_skip (i := 3) rfl (by kernel_rfl) (by kernel_rfl) rfl rfl rfl ?_
          refine xp_skip (i := 4) rfl (by kernel_rfl) (by kernel_rfl) rfl rfl rfl ?_
          refine xp_skip (i := 5) rfl (by kernel_rfl) (by kernel_rfl) rfl rfl rfl ?_
          refine xp_skip (i := 6) rfl (by kernel_rfl) (by kernel_rfl) rfl rfl rfl ?_
          refine xp_skip (i := 7) rfl (by kernel_rfl) (by kernel_rfl) rfl rfl rfl ?_
          refine xp_skip (i := 8) rfl (by kernel_rfl) (by kernel_rfl) rfl rfl rfl ?_
          refine xp_skip (i := 9) rfl (by kernel_rfl) (by kernel_rfl) rfl rfl rfl ?_
          refine xp_pure (i := 10) rfl (by kernel_rfl) (by kernel_rfl) rfl rfl rfl (pv_pick_f (v := .bool _) rfl rfl rfl) ?_
          refine xp_done (by kernel_rfl) ?_
          refine xthen_normal ?_
          refine xc_cond_f rfl ?_
          refine xc_skip ?_
          refine xthen_normal ?_
          refine xc_seq ?_
          obtain ⟨ba, off, hae⟩ := (hx.ext hX).at
          refine xp_start rfl (by repeat (first | with_reducible exact np_fin | with_reducible exact np_ret | with_reducible refine np_then ?_ | with_reducible refine np_block ?_)) (by kernel_rfl) ?_
          refine xp_pure (i := 0) rfl (by kernel_rfl) (by kernel_rfl) rfl rfl rfl (pv_move (v := .slice _ _ _) rfl rfl) ?_
          refine xp_pure (i := 1) rfl (by kernel_rfl) (by kernel_rfl) rfl rfl rfl (pv_move (v := .int _ _) rfl rfl) ?_
          refine xp_pure (i := 2) rfl (by kernel_rfl) (by kernel_rfl) rfl rfl rfl (pv_indexAddr_l rfl (sl_eq (hae (by omega)).1) rfl (by omega)) ?_
          refine xp_pure (i := 3) rfl (by kernel_rfl) (by kernel_rfl) rfl rfl rfl (pv_fieldAddr rfl rfl) ?_
          refine xp_light (i := 4) rfl (by kernel_rfl) (by kernel_rfl) rfl rfl rfl (lv_load (v := .agg _) rfl rfl (by exact ld_rky (hae (by omega)).2 hw (by decide) (by omega))) ?_
          refine xp_light (i := 5) rfl (by kernel_rfl) (by kernel_rfl) rfl rfl rfl (lv_load (v := .agg _) rfl rfl (by exact ld_ints m0_0 hk)) ?_
          refine xp_ndec (i := 6) rfl (by kernel_rfl) (by kernel_rfl) rfl rfl rfl (pv_neq_g (ky (gr l i)) k rfl rfl rfl hk4 hk) (fun h9_6 => ?_) (fun h9_6 => ?_)
          · skip
            refine xp_done (by kernel_rfl) ?_
            refine xthen_normal ?_
            refine xc_cond_f rfl ?_
            refine xc_skip ?_
            refine xblock_normal ?_
            refine xthen_normal ?_
            refine xc_region ?_
            refine xl_pure rfl rfl rfl (pv_move (v := .int _ _) rfl rfl) ?_
            refine xl_pure rfl rfl rfl (pv_add rfl rfl rfl (fit_i64 (by omega))) ?_
            refine xl_pure rfl rfl rfl (pv_assign (v := .int _ _) rfl rfl) ?_
            refine xl_nil ?_
            refine xthen_normal ?_
            first
              | exact ⟨(i + 1, _, (out ++ [k ++ [n]] ++ [gr l i]), _, _), ⟨rfl, rfl, rfl, slv (by simp), rfl, rfl, trivial⟩, ⟨by (try simp only); omega, by have h := (hI.ins hs hw hk hil rfl hc6_9).row hs hw hk hil (fun h => by cases h); rw [if_pos h9_6] at h; exact h, m0_0, by simpa [fr_app, fr] using hO10_6, hX⟩, by (try simp only); omega⟩
              | exact ⟨(i + 1, _, (out ++ [k ++ [n]]), _, _), ⟨rfl, rfl, rfl, slv (by simp), rfl, rfl, trivial⟩, ⟨by (try simp only); omega, by have h := (hI.ins hs hw hk hil rfl hc6_9).row hs hw hk hil (fun h => by cases h); rw [if_neg (fun h2 => h2 h9_6), List.append_nil] at h; exact h, m0_0, by simpa [fr_app, fr] using hO7_5, hX⟩, by (try simp only); omega⟩
              | exact ⟨(i + 1, _, (out ++ [gr l i]), _, _), ⟨rfl, rfl, rfl, slv (by simp), rfl, rfl, trivial⟩, ⟨by (try simp only); omega, by have h := hI.row hs hw hk hil (by first | exact fun _ => hc6_9 | exact fun h => by cases h); rw [if_pos h9_6] at h; exact h, m0_0, by simpa [fr_app, fr] using hO10_6, hX⟩, by (try simp only); omega⟩
              | exact ⟨(i + 1, _, out, _, _), ⟨rfl, rfl, rfl, slv (by simp), rfl, rfl, trivial⟩, ⟨by (try simp only); omega, by have h := hI.row hs hw hk hil (by first | exact fun _ => hc6_9 | exact fun h => by cases h); rw [if_neg (fun h2 => h2 h9_6), List.append_nil] at h; exact h, m0_0, by simpa [fr_app, fr] using ho, hX⟩, by (try simp only); omega⟩
          · skip
            refine xp_done (by kernel_rfl) ?_
            refine xthen_normal ?_
            refine xc_cond_t rfl ?_
            obtain ⟨ba, off, hae⟩ := (hx.ext hX).at
            refine xc_region ?_
            refine xl_pure rfl rfl rfl (pv_move (v := .slice _ _ _) rfl rfl) ?_
            refine xl_pure rfl rfl rfl (pv_move (v := .slice _ _ _) rfl rfl) ?_
            refine xl_pure rfl rfl rfl (pv_move (v := .int _ _) rfl rfl) ?_
            refine xl_pure rfl rfl rfl (pv_indexAddr_l rfl (sl_eq (hae (by omega)).1) rfl (by omega)) ?_
            refine xl_light rfl rfl rfl (lv_load (v := .agg _) rfl rfl (by exact ld_row' (hae (by omega)).2 hw (by omega))) ?_
            refine xl_heavy rfl rfl rfl (hv_buildSlice (cs := ints (gr l i)) rfl rfl (parts1 (ints_ten hr5)) rfl rfl) ?_
            rintro v10_5 H10_5 ⟨b10_5, rfl, hN10_5⟩
            have gb10_5 := hX.fresh hN10_5
            have nm0_0_10_5 := m0_0.apart hN10_5
            have pm10_5_ho := ho.apartN hN10_5
            have m0_0 := m0_0.ext hN10_5.ext
            have ho := ho.ext hN10_5.ext
            have hX := hX.trans hN10_5.ext
            have m10_5 := hN10_5.blk
            refine xl_heavy rfl rfl rfl (hv_append (size := 5) rfl rfl ho rfl m10_5.row (by simpa using ints_ten hr5) (ints_mem _) rfl (by decide) (by omega) (by omega) hX.size) ?_
            rintro v10_6 H10_6 ⟨hO10_6, hG10_6, -, hB10_6⟩
            have m0_0 := m0_0.offT ho hG10_6 rfl
            have hX := ho.grown hX hG10_6 (Nat.le_refl _)
            obtain ⟨a10_6, c10_6, rfl⟩ := hO10_6.val
            refine xl_pure rfl rfl rfl (pv_assign (v := .slice _ _ _) rfl rfl) ?_
            refine xl_nil ?_
            refine xblock_normal ?_
            refine xthen_normal ?_
            refine xc_region ?_
            refine xl_pure rfl rfl rfl (pv_move (v := .int _ _) rfl rfl) ?_
            refine xl_pure rfl rfl rfl (pv_add rfl rfl rfl (fit_i64 (by omega))) ?_
            refine xl_pure rfl rfl rfl (pv_assign (v := .int _ _) rfl rfl) ?_
            refine xl_nil ?_
            refine xthen_normal ?_
            first
              | exact ⟨(i + 1, _, (out ++ [k ++ [n]] ++ [gr l i]), _, _), ⟨rfl, rfl, rfl, slv (by simp), rfl, rfl, trivial⟩, ⟨by (try simp only); omega, by have h := (hI.ins hs hw hk hil rfl hc6_9).row hs hw hk hil (fun h => by cases h); rw [if_pos h9_6] at h; exact h, m0_0, by simpa [fr_app, fr] using hO10_6, hX⟩, by (try simp only); omega⟩
              | exact ⟨(i + 1, _, (out ++ [k ++ [n]]), _, _), ⟨rfl, rfl, rfl, slv (by simp), rfl, rfl, trivial⟩, ⟨by (try simp only); omega, by have h := (hI.ins hs hw hk hil rfl hc6_9).row hs hw hk hil (fun h => by cases h); rw [if_neg (fun h2 => h2 h9_6), List.append_nil] at h; exact h, m0_0, by simpa [fr_app, fr] using hO7_5, hX⟩, by (try simp only); omega⟩
              | exact ⟨(i + 1, _, (out ++ [gr l i]), _, _), ⟨rfl, rfl, rfl, slv (by simp), rfl, rfl, trivial⟩, ⟨by (try simp only); omega, by have h := hI.row hs hw hk hil (by first | exact fun _ => hc6_9 | exact fun h => by cases h); rw [if_pos h9_6] at h; exact h, m0_0, by simpa [fr_app, fr] using hO10_6, hX⟩, by (try simp only); omega⟩
              | exact ⟨(i + 1, _, out, _, _), ⟨rfl, rfl, rfl, slv (by simp), rfl, rfl, trivial⟩, ⟨by (try simp only); omega, by have h := hI.row hs hw hk hil (by first | exact fun _ => hc6_9 | exact fun h => by cases h); rw [if_neg (fun h2 => h2 h9_6), List.append_nil] at h; exact h, m0_0, by simpa [fr_app, fr] using ho, hX⟩, by (try simp only); omega⟩
      · skip
        refine xl_nil ?_
        refine xthen_normal ?_
        refine xc_cond_f rfl ?_
        refine xc_exit ?_
        refine xthen_exit ?_
        refine xthen_exit ?_
        refine xblock_same ?_
        refine xthen_normal ?_
        refine xc_seq ?_
        refine xc_seq ?_
        obtain rfl : i = l.length := by omega
        refine xc_region ?_
        refine xl_pure rfl rfl rfl (pv_move (v := .bool _) rfl rfl) ?_
        cases dn
        · skip
          refine xl_pure rfl rfl rfl (pv_not rfl rfl) ?_
          refine xl_nil ?_
          refine xthen_normal ?_
          refine xc_cond_t rfl ?_
          refine xc_region ?_
          refine xl_pure rfl rfl rfl (pv_move (v := .slice _ _ _) rfl rfl) ?_
          refine xl_light rfl rfl rfl (lv_load (v := .agg _) rfl rfl (by exact ld_ints m0_0 hk)) ?_
          refine xl_pure rfl rfl rfl (pv_move (v := .int _ _) rfl rfl) ?_
          refine xl_pure rfl rfl rfl (pv_build_pair (xs := ints k) (ys := [.int .i64 n]) rfl rfl rfl rfl rfl (by rw [ints_ten hk]; rfl) (by rw [ints_ten hk]; rfl) (by rw [ints_ten hk]; rfl)) ?_
          refine xl_heavy rfl rfl rfl (hv_buildSlice (cs := ints (k ++ [n])) rfl rfl (by rw [← ints_app]; exact parts1 (by simp [ints, hk])) rfl rfl) ?_
          rintro v12_4 H12_4 ⟨b12_4, rfl, hN12_4⟩
          have gb12_4 := hX.fresh hN12_4
          have nm0_0_12_4 := m0_0.apart hN12_4
          have pm12_4_ho := ho.apartN hN12_4
          have m0_0 := m0_0.ext hN12_4.ext
          have ho := ho.ext hN12_4.ext
          have hX := hX.trans hN12_4.ext
          have m12_4 := hN12_4.blk
          refine xl_heavy rfl rfl rfl (hv_append (size := 5) rfl rfl ho rfl m12_4.row (by simpa using ints_ten hk5) (ints_mem _) rfl (by decide) (by omega) (by omega) hX.size) ?_
          rintro v12_5 H12_5 ⟨hO12_5, hG12_5, -, hB12_5⟩
          have m0_0 := m0_0.offT ho hG12_5 rfl
          have hX := ho.grown hX hG12_5 (Nat.le_refl _)
          obtain ⟨a12_5, c12_5, rfl⟩ := hO12_5.val
          refine xl_pure rfl rfl rfl (pv_assign (v := .slice _ _ _) rfl rfl) ?_
          refine xl_nil ?_
          refine xthen_normal ?_
          refine xc_seq ?_
          refine xc_region ?_
          refine xl_pure rfl rfl rfl (pv_move (v := .slice _ _ _) rfl rfl) ?_
          refine xl_pure rfl rfl rfl (pv_assign (v := .slice _ _ _) rfl rfl) ?_
          refine xl_nil ?_
          refine xthen_normal ?_
          refine xc_ret ?_
          refine fin_ret (res1 (v := .slice _ _ _) rfl rfl) ?_
          have hdn := hI.done hs hw hk
          have hwo := hI.wide hw hk
          first
            | (rw [if_pos rfl] at hdn; exact ⟨a12_5, c12_5, slv (by rw [← hdn]; simp), by rw [← hdn]; exact own_rowsT (hwo.app fun r hr => by rw [List.mem_singleton] at hr; rw [hr]; exact hk5) (by simpa [fr_app, fr] using hO12_5), hX⟩)
            | (rw [if_neg (by decide)] at hdn; exact ⟨va, vc, slv (by rw [← hdn]), by rw [← hdn]; exact own_rowsT hwo ho, hX⟩)
        · skip
          refine xl_pure rfl rfl rfl (pv_not rfl rfl) ?_
          refine xl_nil ?_
          refine xthen_normal ?_
          refine xc_cond_f rfl ?_
          refine xc_skip ?_
          refine xthen_normal ?_
          refine xc_seq ?_
          refine xc_region ?_
          refine xl_pure rfl rfl rfl (pv_move (v := .slice _ _ _) rfl rfl) ?_
          refine xl_pure rfl rfl rfl (pv_assign (v := .slice _ _ _) rfl rfl) ?_
          refine xl_nil ?_
          refine xthen_normal ?_
          refine xc_ret ?_
          refine fin_ret (res1 (v := .slice _ _ _) rfl rfl) ?_
          have hdn := hI.done hs hw hk
          have hwo := hI.wide hw hk
          first
            | (rw [if_pos rfl] at hdn; exact ⟨a12_5, c12_5, slv (by rw [← hdn]; simp), by rw [← hdn]; exact own_rowsT (hwo.app fun r hr => by rw [List.mem_singleton] at hr; rw [hr]; exact hk5) (by simpa [fr_app, fr] using hO12_5), hX⟩)
            | (rw [if_neg (by decide)] at hdn; exact ⟨va, vc, slv (by rw [← hdn]), by rw [← hdn]; exact own_rowsT hwo ho, hX⟩)

theorem c74 {O : Outer} {H : Heap} {bp c : Nat} {a : Option Addr} {l : List (List Int)} {T : List Int} (mp : Blk H bp (.slice a (l).length c :: ints (T)) 87) (hR : RowsT H 138 5 a l) (hc : l.length ≤ c) (hna : a = none → c = 0) (hl : l.length < 1000000) (hs : Srt l) (hT : T.length = 33) (k0 k1 k2 k3 : Int) (n : Int) (hk3 : 1 ≤ k3 ∧ k3 ≤ 32) (h1 : -2305843009213693952 ≤ qtyB l [k0, k1, k2, k3] ∧ qtyB l [k0, k1, k2, k3] ≤ 2305843009213693952) (h2 : -2305843009213693952 ≤ n ∧ n ≤ 2305843009213693952) (h3 : -2305843009213693952 ≤ T.getD k3.toNat 0 ∧ T.getD k3.toNat 0 ≤ 2305843009213693952) :
    FnC Try.prog 74 #[.pointer (some ⟨bp, 0, none⟩), .agg #[.int .i64 k0, .int .i64 k1, .int .i64 k2, .int .i64 k3], .int .i64 n] O H (fun _ H' => ∃ a' c', But bp H H' ∧ Blk H' bp (.slice a' ((setB l [k0, k1, k2, k3] (qtyB l [k0, k1, k2, k3] + n))).length c' :: ints (T.set k3.toNat (T.getD k3.toNat 0 + n))) 87 ∧ RowsT H' 138 5 a' ((setB l [k0, k1, k2, k3] (qtyB l [k0, k1, k2, k3] + n))) ∧ ((setB l [k0, k1, k2, k3] (qtyB l [k0, k1, k2, k3] + n))).length ≤ c' ∧ (a' = none → c' = 0)) := by
  refine fn_enter (A := [.pointer (some ⟨bp, 0, none⟩), .agg #[.int .i64 k0, .int .i64 k1, .int .i64 k2, .int .i64 k3], .int .i64 n]) Try.func74 rfl rfl ?_
  have hX := But.refl bp H
  refine xc_seq ?_
  refine xc_region ?_
  refine xl_heavy rfl rfl rfl (hv_box rfl rfl) ?_
  rintro v0_0 H0_0 ⟨b0_0, rfl, hN0_0⟩
  have gb0_0 := hX.fresh hN0_0
  have nmp_0_0 := mp.apart hN0_0
  have mp := mp.ext hN0_0.ext
  have hR := hR.ext hN0_0.ext
  have hX := hX.transE hN0_0.ext
  have m0_0 := hN0_0.blk
  refine xl_nil ?_
  refine xthen_normal ?_
  refine xc_seq ?_
  refine xc_region ?_
  refine xl_pure rfl rfl rfl (pv_move (v := .pointer _) rfl rfl) ?_
  refine xl_light rfl rfl rfl (lv_load (v := .agg _) rfl rfl (ld_blk_a m0_0 rfl rfl)) ?_
  refine xl_heavy rfl rfl rfl (hv_call (g := 43) rfl rfl (c43 mp hR hc hna hl hs hT k0 k1 k2 k3) rfl) ?_
  rintro v1_2 H1_2 ⟨rfl, hE1_2⟩
  have mp := mp.ext hE1_2
  have hR := hR.ext hE1_2
  have m0_0 := m0_0.ext hE1_2
  have hX := hX.transE hE1_2
  refine xl_pure rfl rfl rfl (pv_move (v := .int _ _) rfl rfl) ?_
  refine xl_pure rfl rfl rfl (pv_add rfl rfl rfl (fit_i64 (by omega))) ?_
  refine xl_pure rfl rfl rfl (pv_assign (v := .int _ _) rfl rfl) ?_
  refine xl_nil ?_
  refine xthen_normal ?_
  refine xc_seq ?_
  refine xc_seq ?_
  refine xc_region ?_
  refine xl_pure rfl rfl rfl (pv_move (v := .int _ _) rfl rfl) ?_
  refine xl_dec rfl rfl rfl (pv_eql rfl rfl rfl) (fun h2_1 => ?_) (fun h2_1 => ?_)
  · skip
    refine xl_nil ?_
    refine xthen_normal ?_
    refine xc_cond_t rfl ?_
    refine xp_start rfl (by repeat (first | with_reducible exact np_fin | with_reducible exact np_ret | with_reducible refine np_then ?_ | with_reducible refine np_block ?_)) (by kernel_rfl) ?_
    refine xp_pure (i := 0) rfl (by kernel_rfl) (by kernel_rfl) rfl rfl rfl (pv_move (v := .pointer _) rfl rfl) ?_
    refine xp_pure (i := 1) rfl (by kernel_rfl) (by kernel_rfl) rfl rfl rfl (pv_nilCheck_p rfl rfl) ?_
    refine xp_pure (i := 2) rfl (by kernel_rfl) (by kernel_rfl) rfl rfl rfl (pv_fieldAddr rfl rfl) ?_
    refine xp_light (i := 3) rfl (by kernel_rfl) (by kernel_rfl) rfl rfl rfl (lv_load (v := .agg _) rfl rfl (ld_blk_a m0_0 rfl rfl)) ?_
    refine xp_heavy (i := 4) (by kernel_rfl) ?_
    refine xph_val rfl rfl rfl rfl (hv_call (g := 47) rfl rfl (c47 k0 k1 k2 k3) rfl) (pd (by kernel_rfl) pn) ?_
    rintro v3_4 H3_4 ⟨rfl, hE3_4⟩
    have mp := mp.ext hE3_4
    have hR := hR.ext hE3_4
    have m0_0 := m0_0.ext hE3_4
    have hX := hX.transE hE3_4
    refine ⟨okn, ?_⟩
    refine xp_heavy (i := 5) (by kernel_rfl) ?_
    refine xph_val rfl rfl rfl rfl (hv_call (g := 95) rfl rfl (c95 mp hR rfl hs hc hna (by omega) [k0, k1, k2, k3] rfl) rfl) pn ?_
    rintro v3_5 H3_5 ⟨a3_5, c3_5, hv3_5, hU3_5, hR3_5, hc3_5, hna3_5⟩
    have hR := hR.offT mp hU3_5.but (by first | rfl | assumption)
    have m0_0 := m0_0.off hU3_5.but (by first | exact nmp_0_0.symm | exact ⟨m0_0.ne mp rfl⟩ | exact ⟨m0_0.ne mp (by assumption)⟩ | exact ⟨Ne.symm (mp.ne m0_0 (by assumption))⟩)
    have hX := hX.trans hU3_5.but
    have mp := hU3_5.blk
    have es : (setB l [k0, k1, k2, k3] (qtyB l [k0, k1, k2, k3] + n)) = delR l [k0, k1, k2, k3] := if_pos h2_1
    rw [← es] at mp hR3_5 hc3_5
    have hRn := hR3_5; have hcn := hc3_5; have hnan := hna3_5
    refine ⟨okn, ?_⟩
    refine xp_done (by kernel_rfl) ?_
    refine xthen_normal ?_
    refine xp_start rfl (by repeat (first | with_reducible exact np_fin | with_reducible exact np_ret | with_reducible refine np_then ?_ | with_reducible refine np_block ?_)) (by kernel_rfl) ?_
    refine xp_pure (i := 0) rfl (by kernel_rfl) (by kernel_rfl) rfl rfl rfl (pv_move (v := .pointer _) rfl rfl) ?_
    refine xp_pure (i := 1) rfl (by kernel_rfl) (by kernel_rfl) rfl rfl rfl (pv_fieldAddr rfl rfl) ?_
    refine xp_light (i := 2) rfl (by kernel_rfl) (by kernel_rfl) rfl rfl rfl (lv_load (v := .int _ _) rfl rfl (ld_blk m0_0 rfl)) ?_
    refine xp_pure (i := 3) rfl (by kernel_rfl) (by kernel_rfl) rfl rfl rfl (pv_nilCheck_p rfl rfl) ?_
    refine xp_pure (i := 4) rfl (by kernel_rfl) (by kernel_rfl) rfl rfl rfl (pv_fieldAddr rfl rfl) ?_
    refine xp_pure (i := 5) rfl (by kernel_rfl) (by kernel_rfl) rfl rfl rfl (pv_indexAddr_a rfl rfl rfl (by omega)) ?_
    refine xp_light (i := 6) rfl (by kernel_rfl) (by kernel_rfl) rfl rfl rfl (lv_load (v := .int _ _) rfl rfl (by exact ld_tot mp (by omega))) ?_
    refine xp_pure (i := 7) rfl (by kernel_rfl) (by kernel_rfl) rfl rfl rfl (pv_move (v := .int _ _) rfl rfl) ?_
    refine xp_pure (i := 8) rfl (by kernel_rfl) (by kernel_rfl) rfl rfl rfl (pv_add rfl rfl rfl (fit_i64 (by omega))) ?_
    refine xp_pure (i := 9) rfl (by kernel_rfl) (by kernel_rfl) rfl rfl rfl (pv_nilCheck_p rfl rfl) ?_
    refine xp_pure (i := 10) rfl (by kernel_rfl) (by kernel_rfl) rfl rfl rfl (pv_fieldAddr rfl rfl) ?_
    refine xp_pure (i := 11) rfl (by kernel_rfl) (by kernel_rfl) rfl rfl rfl (pv_indexAddr_a rfl rfl rfl (by omega)) ?_
    refine xp_heavy (i := 12) (by kernel_rfl) ?_
    refine xph_store rfl rfl rfl (hv_store (vs := [.int .i64 (T.getD k3.toNat 0 + n)]) rfl rfl rfl (mp) rfl (by simp [ints, hT]; omega) rfl) (pd (by kernel_rfl) (pd (by kernel_rfl) pn)) ?_
    rintro v5_12 H5_12 ⟨hU5_12, hZ5_12⟩
    have hR := hR.offT mp hU5_12.but (by first | rfl | assumption)
    have m0_0 := m0_0.off hU5_12.but (by first | exact nmp_0_0.symm | exact ⟨m0_0.ne mp rfl⟩ | exact ⟨m0_0.ne mp (by assumption)⟩ | exact ⟨Ne.symm (mp.ne m0_0 (by assumption))⟩)
    have hR3_5 := hR3_5.offT mp hU5_12.but (by first | rfl | assumption)
    have hX := hX.trans hU5_12.but
    have mp := hU5_12.blk
    rw [Nat.mul_one, set_tot (by omega)] at mp
    refine ⟨okn, ?_⟩
    refine xp_done (by kernel_rfl) ?_
    refine fin_normal (res0 rfl) ?_
    first
      | exact ⟨_, _, hX, mp, hR3_5, hc3_5, hna3_5⟩
      | exact ⟨_, _, hX, mp, hR4_6, hc4_6, hna4_6⟩
  · skip
    refine xl_nil ?_
    refine xthen_normal ?_
    refine xc_cond_f rfl ?_
    refine xp_start rfl (by repeat (first | with_reducible exact np_fin | with_reducible exact np_ret | with_reducible refine np_then ?_ | with_reducible refine np_block ?_)) (by kernel_rfl) ?_
    refine xp_pure (i := 0) rfl (by kernel_rfl) (by kernel_rfl) rfl rfl rfl (pv_move (v := .pointer _) rfl rfl) ?_
    refine xp_pure (i := 1) rfl (by kernel_rfl) (by kernel_rfl) rfl rfl rfl (pv_nilCheck_p rfl rfl) ?_
    refine xp_pure (i := 2) rfl (by kernel_rfl) (by kernel_rfl) rfl rfl rfl (pv_fieldAddr rfl rfl) ?_
    refine xp_light (i := 3) rfl (by kernel_rfl) (by kernel_rfl) rfl rfl rfl (lv_load (v := .agg _) rfl rfl (ld_blk_a m0_0 rfl rfl)) ?_
    refine xp_pure (i := 5) rfl (by kernel_rfl) (by kernel_rfl) rfl rfl rfl (pv_move (v := .int _ _) rfl rfl) ?_
    refine xp_heavy (i := 4) (by kernel_rfl) ?_
    refine xph_val rfl rfl rfl rfl (hv_call (g := 47) rfl rfl (c47 k0 k1 k2 k3) rfl) (pd (by kernel_rfl) pn) ?_
    rintro v4_4 H4_4 ⟨rfl, hE4_4⟩
    have mp := mp.ext hE4_4
    have hR := hR.ext hE4_4
    have m0_0 := m0_0.ext hE4_4
    have hX := hX.transE hE4_4
    refine ⟨okn, ?_⟩
    refine xp_heavy (i := 6) (by kernel_rfl) ?_
    refine xph_val rfl rfl rfl rfl (hv_call (g := 46) rfl rfl (c46 mp hR rfl hs hc hna (by omega) [k0, k1, k2, k3] rfl (qtyB l [k0, k1, k2, k3] + n)) rfl) pn ?_
    rintro v4_6 H4_6 ⟨a4_6, c4_6, hv4_6, hU4_6, hR4_6, hc4_6, hna4_6⟩
    have hR := hR.offT mp hU4_6.but (by first | rfl | assumption)
    have m0_0 := m0_0.off hU4_6.but (by first | exact nmp_0_0.symm | exact ⟨m0_0.ne mp rfl⟩ | exact ⟨m0_0.ne mp (by assumption)⟩ | exact ⟨Ne.symm (mp.ne m0_0 (by assumption))⟩)
    have hX := hX.trans hU4_6.but
    have mp := hU4_6.blk
    have es : (setB l [k0, k1, k2, k3] (qtyB l [k0, k1, k2, k3] + n)) = putR l ([k0, k1, k2, k3] ++ [qtyB l [k0, k1, k2, k3] + n]) := if_neg h2_1
    rw [← es] at mp hR4_6 hc4_6
    have hRn := hR4_6; have hcn := hc4_6; have hnan := hna4_6
    refine ⟨okn, ?_⟩
    refine xp_done (by kernel_rfl) ?_
    refine xthen_normal ?_
    refine xp_start rfl (by repeat (first | with_reducible exact np_fin | with_reducible exact np_ret | with_reducible refine np_then ?_ | with_reducible refine np_block ?_)) (by kernel_rfl) ?_
    refine xp_pure (i := 0) rfl (by kernel_rfl) (by kernel_rfl) rfl rfl rfl (pv_move (v := .pointer _) rfl rfl) ?_
    refine xp_pure (i := 1) rfl (by kernel_rfl) (by kernel_rfl) rfl rfl rfl (pv_fieldAddr rfl rfl) ?_
    refine xp_light (i := 2) rfl (by kernel_rfl) (by kernel_rfl) rfl rfl rfl (lv_load (v := .int _ _) rfl rfl (ld_blk m0_0 rfl)) ?_
    refine xp_pure (i := 3) rfl (by kernel_rfl) (by kernel_rfl) rfl rfl rfl (pv_nilCheck_p rfl rfl) ?_
    refine xp_pure (i := 4) rfl (by kernel_rfl) (by kernel_rfl) rfl rfl rfl (pv_fieldAddr rfl rfl) ?_
    refine xp_pure (i := 5) rfl (by kernel_rfl) (by kernel_rfl) rfl rfl rfl (pv_indexAddr_a rfl rfl rfl (by omega)) ?_
    refine xp_light (i := 6) rfl (by kernel_rfl) (by kernel_rfl) rfl rfl rfl (lv_load (v := .int _ _) rfl rfl (by exact ld_tot mp (by omega))) ?_
    refine xp_pure (i := 7) rfl (by kernel_rfl) (by kernel_rfl) rfl rfl rfl (pv_move (v := .int _ _) rfl rfl) ?_
    refine xp_pure (i := 8) rfl (by kernel_rfl) (by kernel_rfl) rfl rfl rfl (pv_add rfl rfl rfl (fit_i64 (by omega))) ?_
    refine xp_pure (i := 9) rfl (by kernel_rfl) (by kernel_rfl) rfl rfl rfl (pv_nilCheck_p rfl rfl) ?_
    refine xp_pure (i := 10) rfl (by kernel_rfl) (by kernel_rfl) rfl rfl rfl (pv_fieldAddr rfl rfl) ?_
    refine xp_pure (i := 11) rfl (by kernel_rfl) (by kernel_rfl) rfl rfl rfl (pv_indexAddr_a rfl rfl rfl (by omega)) ?_
    refine xp_heavy (i := 12) (by kernel_rfl) ?_
    refine xph_store rfl rfl rfl (hv_store (vs := [.int .i64 (T.getD k3.toNat 0 + n)]) rfl rfl rfl (mp) rfl (by simp [ints, hT]; omega) rfl) (pd (by kernel_rfl) (pd (by kernel_rfl) pn)) ?_
    rintro v5_12 H5_12 ⟨hU5_12, hZ5_12⟩
    have hR := hR.offT mp hU5_12.but (by first | rfl | assumption)
    have m0_0 := m0_0.off hU5_12.but (by first | exact nmp_0_0.symm | exact ⟨m0_0.ne mp rfl⟩ | exact ⟨m0_0.ne mp (by assumption)⟩ | exact ⟨Ne.symm (mp.ne m0_0 (by assumption))⟩)
    have hR4_6 := hR4_6.offT mp hU5_12.but (by first | rfl | assumption)
    have hX := hX.trans hU5_12.but
    have mp := hU5_12.blk
    rw [Nat.mul_one, set_tot (by omega)] at mp
    refine ⟨okn, ?_⟩
    refine xp_done (by kernel_rfl) ?_
    refine fin_normal (res0 rfl) ?_
    first
      | exact ⟨_, _, hX, mp, hR3_5, hc3_5, hna3_5⟩
      | exact ⟨_, _, hX, mp, hR4_6, hc4_6, hna4_6⟩

theorem c60 {O : Outer} {H : Heap} {bp c : Nat} {a : Option Addr} {l : List (List Int)} {T : List Int} (mp : Blk H bp (.slice a (l).length c :: ints (T)) 87) (hR : RowsT H 138 5 a l) (hc : l.length ≤ c) (hna : a = none → c = 0) (hl : l.length < 1000000) (hs : Srt l) (hT : T.length = 33) :
    FnC Try.prog 60 #[.pointer (some ⟨bp, 0, none⟩)] O H (fun v H' => ∃ b, v = .pointer (some ⟨b, 0, none⟩) ∧ Blk H' b (.slice a (l).length c :: ints (T)) 87 ∧ Fresh H b ∧ Ext H H') := by
  refine fn_enter (A := [.pointer (some ⟨bp, 0, none⟩)]) Try.func60 rfl rfl ?_
  have hX := Ext.refl H
  refine xc_seq ?_
  refine xc_region ?_
  refine xl_pure rfl rfl rfl (pv_assign (v := .pointer _) rfl rfl) ?_
  refine xl_nil ?_
  refine xthen_normal ?_
  refine xc_seq ?_
  refine xc_seq ?_
  refine xc_region ?_
  refine xl_pure rfl rfl rfl (pv_move (v := .pointer _) rfl rfl) ?_
  refine xl_pure rfl rfl rfl (pv_eql_pn rfl rfl rfl) ?_
  refine xl_nil ?_
  refine xthen_normal ?_
  refine xc_cond_f rfl ?_
  refine xc_skip ?_
  refine xthen_normal ?_
  refine xc_seq ?_
  refine xc_region ?_
  refine xl_pure rfl rfl rfl (pv_move (v := .pointer _) rfl rfl) ?_
  refine xl_pure rfl rfl rfl (pv_nilCheck_p rfl rfl) ?_
  refine xl_light rfl rfl rfl (lv_load (v := .agg _) rfl rfl (by exact ld_bins mp hT)) ?_
  refine xl_heavy rfl rfl rfl (hv_alloc rfl rfl) ?_
  rintro v3_3 H3_3 ⟨b3_3, rfl, hN3_3⟩
  have gb3_3 := hX.fresh hN3_3
  have nmp_3_3 := mp.apart hN3_3
  have mp := mp.ext hN3_3.ext
  have hR := hR.ext hN3_3.ext
  have hX := hX.trans hN3_3.ext
  have m3_3 := hN3_3.blk
  refine xl_store rfl rfl (hv_storeA (vs := (.slice a (l).length c :: ints (T))) rfl rfl rfl (m3_3) (bins_len hT) (by rfl) bins_one) ?_
  rintro v3_4 H3_4 ⟨hU3_4, hZ3_4⟩
  have mp := mp.off hU3_4.but (by first | exact nmp_3_3 | exact ⟨mp.ne m3_3 rfl⟩ | exact ⟨mp.ne m3_3 (by assumption)⟩ | exact ⟨Ne.symm (m3_3.ne mp (by assumption))⟩)
  have hR := hR.offT m3_3 hU3_4.but (by first | rfl | assumption)
  have hX := hX.upd hU3_4.but gb3_3
  have m3_3 := hU3_4.blk
  refine xl_nil ?_
  refine xthen_normal ?_
  refine xc_seq ?_
  refine xc_region ?_
  refine xl_pure rfl rfl rfl (pv_assign (v := .pointer _) rfl rfl) ?_
  refine xl_nil ?_
  refine xthen_normal ?_
  refine xc_ret ?_
  refine fin_ret (res1 (v := .pointer _) rfl rfl) ?_
  exact ⟨_, rfl, m3_3, gb3_3, hX⟩

theorem c60n {O : Outer} {H : Heap}  :
    FnC Try.prog 60 #[.pointer none] O H (fun v H' => ∃ b, v = .pointer (some ⟨b, 0, none⟩) ∧ Blk H' b (.slice none 0 0 :: ints (List.replicate 33 0)) 87 ∧ Fresh H b ∧ Ext H H') := by
  refine fn_enter (A := [.pointer none]) Try.func60 rfl rfl ?_
  have hX := Ext.refl H
  refine xc_seq ?_
  refine xc_region ?_
  refine xl_pure rfl rfl rfl (pv_assign (v := .pointer _) rfl rfl) ?_
  refine xl_nil ?_
  refine xthen_normal ?_
  refine xc_seq ?_
  refine xc_seq ?_
  refine xc_region ?_
  refine xl_pure rfl rfl rfl (pv_move (v := .pointer _) rfl rfl) ?_
  refine xl_pure rfl rfl rfl (pv_eql_nn rfl rfl rfl) ?_
  refine xl_nil ?_
  refine xthen_normal ?_
  refine xc_cond_t rfl ?_
  refine xc_seq ?_
  refine xc_region ?_
  refine xl_pure rfl rfl rfl (pv_build_s (cs := .slice none 0 0 :: ints (List.replicate 33 0)) rfl rfl (by kernel_rfl)) ?_
  refine xl_heavy rfl rfl rfl (hv_box rfl rfl) ?_
  rintro v2_1 H2_1 ⟨b2_1, rfl, hN2_1⟩
  have gb2_1 := hX.fresh hN2_1
  have hX := hX.trans hN2_1.ext
  have m2_1 := hN2_1.blk
  refine xl_pure rfl rfl rfl (pv_assign (v := .pointer _) rfl rfl) ?_
  refine xl_nil ?_
  refine xthen_normal ?_
  refine xc_ret ?_
  refine xthen_ret ?_
  refine fin_ret (res1 (v := .pointer _) rfl rfl) ?_
  exact ⟨_, rfl, m2_1, gb2_1, hX⟩
end Go.XG
