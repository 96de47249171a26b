/-
  Walks of the seat's functions over the logic XG: each function, what it computes. Printed by a program out of wip/walks.py.
-/
import Derived.Test.YtjlhjjjhblcokaaI
import Derived.Test.YtjlhjjjhblcokaaXs
import Derived.Test.YtjlhjjjhblcokaaTo
import Derived.Test.YtjlhjjjhblcokaaTa
import Derived.Test.YtjlhjjjhblcokaaTb
import Derived.Test.YtjlhjjjhblcokaaKb
import Derived.Test.YtjlhjjjhblcokaaBa
import Derived.Test.YtjlhjjjhblcokaaBb
import Derived.Test.YtjlhjjjhblcokaaBc
import Derived.Test.YtjlhjjjhblcokaaBg
namespace Go.XG
open Go.Proofs
set_option maxRecDepth 20000
set_option maxHeartbeats 4000000
theorem c48 {O : Outer} {H : Heap} (k0 k1 k2 k3 : Int) :
    FnC Try.prog 48 #[.agg #[.int .i64 k0, .int .i64 k1, .int .i64 k2, .int .i64 k3]] O H (fun v H' => (IsB [k0, k1, k2, k3] ∧ v = .bool true ∨ ¬ IsB [k0, k1, k2, k3] ∧ v = .bool false) ∧ Ext H H') := by
  refine fn_enter (A := [.agg #[.int .i64 k0, .int .i64 k1, .int .i64 k2, .int .i64 k3]]) Try.func48 rfl rfl ?_
  have hX := Ext.refl H
  refine xc_seq ?_
  refine xc_region ?_
  refine xl_heavy rfl rfl rfl (hv_box rfl rfl) ?_
  rintro v0_0 H0_0 ⟨b0_0, rfl, hN0_0⟩
  have gb0_0 := hX.fresh hN0_0
  have hX := hX.trans hN0_0.ext
  have m0_0 := hN0_0.blk
  refine xl_pure rfl rfl rfl (pv_assign (v := .bool _) rfl rfl) ?_
  refine xl_nil ?_
  refine xthen_normal ?_
  refine xc_seq ?_
  refine xc_region ?_
  refine xl_pure rfl rfl rfl (pv_fieldAddr rfl rfl) ?_
  refine xl_light rfl rfl rfl (lv_load (v := .int _ _) rfl rfl (ld_blk m0_0 rfl)) ?_
  refine xl_dec rfl rfl rfl (pv_geq rfl rfl rfl) (fun h1_2 => ?_) (fun h1_2 => ?_)
  · skip
    refine xl_pure rfl rfl rfl (pv_move (v := .bool _) rfl rfl) ?_
    refine xl_pure rfl rfl rfl (pv_fieldAddr rfl rfl) ?_
    refine xl_light rfl rfl rfl (lv_load (v := .int _ _) rfl rfl (ld_blk m0_0 rfl)) ?_
    refine xl_dec rfl rfl rfl (pv_leq rfl rfl rfl) (fun h1_6 => ?_) (fun h1_6 => ?_)
    · skip
      refine xl_pure rfl rfl rfl (pv_pick_t (v := .bool _) rfl rfl rfl) ?_
      refine xl_pure rfl rfl rfl (pv_move (v := .bool _) rfl rfl) ?_
      refine xl_pure rfl rfl rfl (pv_fieldAddr rfl rfl) ?_
      refine xl_light rfl rfl rfl (lv_load (v := .int _ _) rfl rfl (ld_blk m0_0 rfl)) ?_
      refine xl_dec rfl rfl rfl (pv_geq rfl rfl rfl) (fun h1_11 => ?_) (fun h1_11 => ?_)
      · skip
        refine xl_pure rfl rfl rfl (pv_pick_t (v := .bool _) rfl rfl rfl) ?_
        refine xl_pure rfl rfl rfl (pv_move (v := .bool _) rfl rfl) ?_
        refine xl_pure rfl rfl rfl (pv_fieldAddr rfl rfl) ?_
        refine xl_light rfl rfl rfl (lv_load (v := .int _ _) rfl rfl (ld_blk m0_0 rfl)) ?_
        refine xl_dec rfl rfl rfl (pv_leq rfl rfl rfl) (fun h1_16 => ?_) (fun h1_16 => ?_)
        · skip
          refine xl_pure rfl rfl rfl (pv_pick_t (v := .bool _) rfl rfl rfl) ?_
          refine xl_pure rfl rfl rfl (pv_move (v := .bool _) rfl rfl) ?_
          refine xl_pure rfl rfl rfl (pv_fieldAddr rfl rfl) ?_
          refine xl_light rfl rfl rfl (lv_load (v := .int _ _) rfl rfl (ld_blk m0_0 rfl)) ?_
          refine xl_dec rfl rfl rfl (pv_geq rfl rfl rfl) (fun h1_21 => ?_) (fun h1_21 => ?_)
          · skip
            refine xl_pure rfl rfl rfl (pv_pick_t (v := .bool _) rfl rfl rfl) ?_
            refine xl_pure rfl rfl rfl (pv_move (v := .bool _) rfl rfl) ?_
            refine xl_pure rfl rfl rfl (pv_fieldAddr rfl rfl) ?_
            refine xl_light rfl rfl rfl (lv_load (v := .int _ _) rfl rfl (ld_blk m0_0 rfl)) ?_
            refine xl_dec rfl rfl rfl (pv_leq rfl rfl rfl) (fun h1_26 => ?_) (fun h1_26 => ?_)
            · skip
              refine xl_pure rfl rfl rfl (pv_pick_t (v := .bool _) rfl rfl rfl) ?_
              refine xl_pure rfl rfl rfl (pv_move (v := .bool _) rfl rfl) ?_
              refine xl_pure rfl rfl rfl (pv_fieldAddr rfl rfl) ?_
              refine xl_light rfl rfl rfl (lv_load (v := .int _ _) rfl rfl (ld_blk m0_0 rfl)) ?_
              refine xl_dec rfl rfl rfl (pv_geq rfl rfl rfl) (fun h1_31 => ?_) (fun h1_31 => ?_)
              · skip
                refine xl_pure rfl rfl rfl (pv_pick_t (v := .bool _) rfl rfl rfl) ?_
                refine xl_pure rfl rfl rfl (pv_move (v := .bool _) rfl rfl) ?_
                refine xl_pure rfl rfl rfl (pv_fieldAddr rfl rfl) ?_
                refine xl_light rfl rfl rfl (lv_load (v := .int _ _) rfl rfl (ld_blk m0_0 rfl)) ?_
                refine xl_dec rfl rfl rfl (pv_leq rfl rfl rfl) (fun h1_36 => ?_) (fun h1_36 => ?_)
                · skip
                  refine xl_pure rfl rfl rfl (pv_pick_t (v := .bool _) rfl rfl rfl) ?_
                  refine xl_pure rfl rfl rfl (pv_assign (v := .bool _) rfl rfl) ?_
                  refine xl_nil ?_
                  refine xthen_normal ?_
                  refine xc_ret ?_
                  refine fin_ret (res1 (v := .bool _) rfl rfl) ?_
                  first
                    | exact ⟨.inl ⟨by rw [isB_iff]; omega, rfl⟩, hX⟩
                    | exact ⟨.inr ⟨by rw [isB_iff]; omega, rfl⟩, hX⟩
                · skip
                  refine xl_pure rfl rfl rfl (pv_pick_t (v := .bool _) rfl rfl rfl) ?_
                  refine xl_pure rfl rfl rfl (pv_assign (v := .bool _) rfl rfl) ?_
                  refine xl_nil ?_
                  refine xthen_normal ?_
                  refine xc_ret ?_
                  refine fin_ret (res1 (v := .bool _) rfl rfl) ?_
                  first
                    | exact ⟨.inl ⟨by rw [isB_iff]; omega, rfl⟩, hX⟩
                    | exact ⟨.inr ⟨by rw [isB_iff]; omega, rfl⟩, hX⟩
              · skip
                refine xl_pure rfl rfl rfl (pv_pick_t (v := .bool _) rfl rfl rfl) ?_
                refine xl_pure rfl rfl rfl (pv_move (v := .bool _) rfl rfl) ?_
                refine xl_skip rfl rfl rfl ?_
                refine xl_skip rfl rfl rfl ?_
                refine xl_skip rfl rfl rfl ?_
                refine xl_pure rfl rfl rfl (pv_pick_f (v := .bool _) rfl rfl rfl) ?_
                refine xl_pure rfl rfl rfl (pv_assign (v := .bool _) rfl rfl) ?_
                refine xl_nil ?_
                refine xthen_normal ?_
                refine xc_ret ?_
                refine fin_ret (res1 (v := .bool _) rfl rfl) ?_
                first
                  | exact ⟨.inl ⟨by rw [isB_iff]; omega, rfl⟩, hX⟩
                  | exact ⟨.inr ⟨by rw [isB_iff]; omega, rfl⟩, hX⟩
            · skip
              refine xl_pure rfl rfl rfl (pv_pick_t (v := .bool _) rfl rfl rfl) ?_
              refine xl_pure rfl rfl rfl (pv_move (v := .bool _) rfl rfl) ?_
              refine xl_skip rfl rfl rfl ?_
              refine xl_skip rfl rfl rfl ?_
              refine xl_skip rfl rfl rfl ?_
              refine xl_pure rfl rfl rfl (pv_pick_f (v := .bool _) rfl rfl rfl) ?_
              refine xl_pure rfl rfl rfl (pv_move (v := .bool _) rfl rfl) ?_
              refine xl_skip rfl rfl rfl ?_
              refine xl_skip rfl rfl rfl ?_
              refine xl_skip rfl rfl rfl ?_
              refine xl_pure rfl rfl rfl (pv_pick_f (v := .bool _) rfl rfl rfl) ?_
              refine xl_pure rfl rfl rfl (pv_assign (v := .bool _) rfl rfl) ?_
              refine xl_nil ?_
              refine xthen_normal ?_
              refine xc_ret ?_
              refine fin_ret (res1 (v := .bool _) rfl rfl) ?_
              first
                | exact ⟨.inl ⟨by rw [isB_iff]; omega, rfl⟩, hX⟩
                | exact ⟨.inr ⟨by rw [isB_iff]; omega, rfl⟩, hX⟩
          · skip
            refine xl_pure rfl rfl rfl (pv_pick_t (v := .bool _) rfl rfl rfl) ?_
            refine xl_pure rfl rfl rfl (pv_move (v := .bool _) rfl rfl) ?_
            refine xl_skip rfl rfl rfl ?_
            refine xl_skip rfl rfl rfl ?_
            refine xl_skip rfl rfl rfl ?_
            refine xl_pure rfl rfl rfl (pv_pick_f (v := .bool _) rfl rfl rfl) ?_
            refine xl_pure rfl rfl rfl (pv_move (v := .bool _) rfl rfl) ?_
            refine xl_skip rfl rfl rfl ?_
            refine xl_skip rfl rfl rfl ?_
            refine xl_skip rfl rfl rfl ?_
            refine xl_pure rfl rfl rfl (pv_pick_f (v := .bool _) rfl rfl rfl) ?_
            refine xl_pure rfl rfl rfl (pv_move (v := .bool _) rfl rfl) ?_
            refine xl_skip rfl rfl rfl ?_
            refine xl_skip rfl rfl rfl ?_
            refine xl_skip rfl rfl rfl ?_
            refine xl_pure rfl rfl rfl (pv_pick_f (v := .bool _) rfl rfl rfl) ?_
            refine xl_pure rfl rfl rfl (pv_assign (v := .bool _) rfl rfl) ?_
            refine xl_nil ?_
            refine xthen_normal ?_
            refine xc_ret ?_
            refine fin_ret (res1 (v := .bool _) rfl rfl) ?_
            first
              | exact ⟨.inl ⟨by rw [isB_iff]; omega, rfl⟩, hX⟩
              | exact ⟨.inr ⟨by rw [isB_iff]; omega, rfl⟩, hX⟩
        · skip
          refine xl_pure rfl rfl rfl (pv_pick_t (v := .bool _) rfl rfl rfl) ?_
          refine xl_pure rfl rfl rfl (pv_move (v := .bool _) rfl rfl) ?_
          refine xl_skip rfl rfl rfl ?_
          refine xl_skip rfl rfl rfl ?_
          refine xl_skip rfl rfl rfl ?_
          refine xl_pure rfl rfl rfl (pv_pick_f (v := .bool _) rfl rfl rfl) ?_
          refine xl_pure rfl rfl rfl (pv_move (v := .bool _) rfl rfl) ?_
          refine xl_skip rfl rfl rfl ?_
          refine xl_skip rfl rfl rfl ?_
          refine xl_skip rfl rfl rfl ?_
          refine xl_pure rfl rfl rfl (pv_pick_f (v := .bool _) rfl rfl rfl) ?_
          refine xl_pure rfl rfl rfl (pv_move (v := .bool _) rfl rfl) ?_
          refine xl_skip rfl rfl rfl ?_
          refine xl_skip rfl rfl rfl ?_
          refine xl_skip rfl rfl rfl ?_
          refine xl_pure rfl rfl rfl (pv_pick_f (v := .bool _) rfl rfl rfl) ?_
          refine xl_pure rfl rfl rfl (pv_move (v := .bool _) rfl rfl) ?_
          refine xl_skip rfl rfl rfl ?_
          refine xl_skip rfl rfl rfl ?_
          refine xl_skip rfl rfl rfl ?_
          refine xl_pure rfl rfl rfl (pv_pick_f (v := .bool _) rfl rfl rfl) ?_
          refine xl_pure rfl rfl rfl (pv_assign (v := .bool _) rfl rfl) ?_
          refine xl_nil ?_
          refine xthen_normal ?_
          refine xc_ret ?_
          refine fin_ret (res1 (v := .bool _) rfl rfl) ?_
          first
            | exact ⟨.inl ⟨by rw [isB_iff]; omega, rfl⟩, hX⟩
            | exact ⟨.inr ⟨by rw [isB_iff]; omega, rfl⟩, hX⟩
      · skip
        refine xl_pure rfl rfl rfl (pv_pick_t (v := .bool _) rfl rfl rfl) ?_
        refine xl_pure rfl rfl rfl (pv_move (v := .bool _) rfl rfl) ?_
        refine xl_skip rfl rfl rfl ?_
        refine xl_skip rfl rfl rfl ?_
        refine xl_skip rfl rfl rfl ?_
        refine xl_pure rfl rfl rfl (pv_pick_f (v := .bool _) rfl rfl rfl) ?_
        refine xl_pure rfl rfl rfl (pv_move (v := .bool _) rfl rfl) ?_
        refine xl_skip rfl rfl rfl ?_
        refine xl_skip rfl rfl rfl ?_
        refine xl_skip rfl rfl rfl ?_
        refine xl_pure rfl rfl rfl (pv_pick_f (v := .bool _) rfl rfl rfl) ?_
        refine xl_pure rfl rfl rfl (pv_move (v := .bool _) rfl rfl) ?_
        refine xl_skip rfl rfl rfl ?_
        refine xl_skip rfl rfl rfl ?_
        refine xl_skip rfl rfl rfl ?_
        refine xl_pure rfl rfl rfl (pv_pick_f (v := .bool _) rfl rfl rfl) ?_
        refine xl_pure rfl rfl rfl (pv_move (v := .bool _) rfl rfl) ?_
        refine xl_skip rfl rfl rfl ?_
        refine xl_skip rfl rfl rfl ?_
        refine xl_skip rfl rfl rfl ?_
        refine xl_pure rfl rfl rfl (pv_pick_f (v := .bool _) rfl rfl rfl) ?_
        refine xl_pure rfl rfl rfl (pv_move (v := .bool _) rfl rfl) ?_
        refine xl_skip rfl rfl rfl ?_
        refine xl_skip rfl rfl rfl ?_
        refine xl_skip rfl rfl rfl ?_
        refine xl_pure rfl rfl rfl (pv_pick_f (v := .bool _) rfl rfl rfl) ?_
        refine xl_pure rfl rfl rfl (pv_assign (v := .bool _) rfl rfl) ?_
        refine xl_nil ?_
        refine xthen_normal ?_
        refine xc_ret ?_
        refine fin_ret (res1 (v := .bool _) rfl rfl) ?_
        first
          | exact ⟨.inl ⟨by rw [isB_iff]; omega, rfl⟩, hX⟩
          | exact ⟨.inr ⟨by rw [isB_iff]; omega, rfl⟩, hX⟩
    · skip
      refine xl_pure rfl rfl rfl (pv_pick_t (v := .bool _) rfl rfl rfl) ?_
      refine xl_pure rfl rfl rfl (pv_move (v := .bool _) rfl rfl) ?_
      refine xl_skip rfl rfl rfl ?_
      refine xl_skip rfl rfl rfl ?_
      refine xl_skip rfl rfl rfl ?_
      refine xl_pure rfl rfl rfl (pv_pick_f (v := .bool _) rfl rfl rfl) ?_
      refine xl_pure rfl rfl rfl (pv_move (v := .bool _) rfl rfl) ?_
      refine xl_skip rfl rfl rfl ?_
      refine xl_skip rfl rfl rfl ?_
      refine xl_skip rfl rfl rfl ?_
      refine xl_pure rfl rfl rfl (pv_pick_f (v := .bool _) rfl rfl rfl) ?_
      refine xl_pure rfl rfl rfl (pv_move (v := .bool _) rfl rfl) ?_
      refine xl_skip rfl rfl rfl ?_
      refine xl_skip rfl rfl rfl ?_
      refine xl_skip rfl rfl rfl ?_
      refine xl_pure rfl rfl rfl (pv_pick_f (v := .bool _) rfl rfl rfl) ?_
      refine xl_pure rfl rfl rfl (pv_move (v := .bool _) rfl rfl) ?_
      refine xl_skip rfl rfl rfl ?_
      refine xl_skip rfl rfl rfl ?_
      refine xl_skip rfl rfl rfl ?_
      refine xl_pure rfl rfl rfl (pv_pick_f (v := .bool _) rfl rfl rfl) ?_
      refine xl_pure rfl rfl rfl (pv_move (v := .bool _) rfl rfl) ?_
      refine xl_skip rfl rfl rfl ?_
      refine xl_skip rfl rfl rfl ?_
      refine xl_skip rfl rfl rfl ?_
      refine xl_pure rfl rfl rfl (pv_pick_f (v := .bool _) rfl rfl rfl) ?_
      refine xl_pure rfl rfl rfl (pv_move (v := .bool _) rfl rfl) ?_
      refine xl_skip rfl rfl rfl ?_
      refine xl_skip rfl rfl rfl ?_
      refine xl_skip rfl rfl rfl ?_
      refine xl_pure rfl rfl rfl (pv_pick_f (v := .bool _) rfl rfl rfl) ?_
      refine xl_pure rfl rfl rfl (pv_assign (v := .bool _) rfl rfl) ?_
      refine xl_nil ?_
      refine xthen_normal ?_
      refine xc_ret ?_
      refine fin_ret (res1 (v := .bool _) rfl rfl) ?_
      first
        | exact ⟨.inl ⟨by rw [isB_iff]; omega, rfl⟩, hX⟩
        | exact ⟨.inr ⟨by rw [isB_iff]; omega, rfl⟩, hX⟩
  · skip
    refine xl_pure rfl rfl rfl (pv_move (v := .bool _) rfl rfl) ?_
    refine xl_skip rfl rfl rfl ?_
    refine xl_skip rfl rfl rfl ?_
    refine xl_skip rfl rfl rfl ?_
    refine xl_pure rfl rfl rfl (pv_pick_f (v := .bool _) rfl rfl rfl) ?_
    refine xl_pure rfl rfl rfl (pv_move (v := .bool _) rfl rfl) ?_
    refine xl_skip rfl rfl rfl ?_
    refine xl_skip rfl rfl rfl ?_
    refine xl_skip rfl rfl rfl ?_
    refine xl_pure rfl rfl rfl (pv_pick_f (v := .bool _) rfl rfl rfl) ?_
    refine xl_pure rfl rfl rfl (pv_move (v := .bool _) rfl rfl) ?_
    refine xl_skip rfl rfl rfl ?_
    refine xl_skip rfl rfl rfl ?_
    refine xl_skip rfl rfl rfl ?_
    refine xl_pure rfl rfl rfl (pv_pick_f (v := .bool _) rfl rfl rfl) ?_
    refine xl_pure rfl rfl rfl (pv_move (v := .bool _) rfl rfl) ?_
    refine xl_skip rfl rfl rfl ?_
    refine xl_skip rfl rfl rfl ?_
    refine xl_skip rfl rfl rfl ?_
    refine xl_pure rfl rfl rfl (pv_pick_f (v := .bool _) rfl rfl rfl) ?_
    refine xl_pure rfl rfl rfl (pv_move (v := .bool _) rfl rfl) ?_
    refine xl_skip rfl rfl rfl ?_
    refine xl_skip rfl rfl rfl ?_
    refine xl_skip rfl rfl rfl ?_
    refine xl_pure rfl rfl rfl (pv_pick_f (v := .bool _) rfl rfl rfl) ?_
    refine xl_pure rfl rfl rfl (pv_move (v := .bool _) rfl rfl) ?_
    refine xl_skip rfl rfl rfl ?_
    refine xl_skip rfl rfl rfl ?_
    refine xl_skip rfl rfl rfl ?_
    refine xl_pure rfl rfl rfl (pv_pick_f (v := .bool _) rfl rfl rfl) ?_
    refine xl_pure rfl rfl rfl (pv_move (v := .bool _) rfl rfl) ?_
    refine xl_skip rfl rfl rfl ?_
    refine xl_skip rfl rfl rfl ?_
    refine xl_skip rfl rfl rfl ?_
    refine xl_pure rfl rfl rfl (pv_pick_f (v := .bool _) rfl rfl rfl) ?_
    refine xl_pure rfl rfl rfl (pv_assign (v := .bool _) rfl rfl) ?_
    refine xl_nil ?_
    refine xthen_normal ?_
    refine xc_ret ?_
    refine fin_ret (res1 (v := .bool _) rfl rfl) ?_
    first
      | exact ⟨.inl ⟨by rw [isB_iff]; omega, rfl⟩, hX⟩
      | exact ⟨.inr ⟨by rw [isB_iff]; omega, rfl⟩, hX⟩

theorem c80 {O : Outer} {H : Heap} (a0 a1 a2 a3 b0 b1 b2 b3 : Int) :
    FnC Try.prog 80 #[.agg #[.int .i64 a0, .int .i64 a1, .int .i64 a2, .int .i64 a3], .agg #[.int .i64 b0, .int .i64 b1, .int .i64 b2, .int .i64 b3]] O H (fun v H' => (kcmp [a0, a1, a2, a3] [b0, b1, b2, b3] < 0 ∧ v = .bool true ∨ ¬ kcmp [a0, a1, a2, a3] [b0, b1, b2, b3] < 0 ∧ v = .bool false) ∧ Ext H H') := by
  refine fn_enter (A := [.agg #[.int .i64 a0, .int .i64 a1, .int .i64 a2, .int .i64 a3], .agg #[.int .i64 b0, .int .i64 b1, .int .i64 b2, .int .i64 b3]]) Try.func80 rfl rfl ?_
  have hX := Ext.refl H
  refine xc_seq ?_
  refine xc_region ?_
  refine xl_heavy rfl rfl rfl (hv_box rfl rfl) ?_
  rintro v0_0 H0_0 ⟨b0_0, rfl, hN0_0⟩
  have gb0_0 := hX.fresh hN0_0
  have hX := hX.trans hN0_0.ext
  have m0_0 := hN0_0.blk
  refine xl_heavy rfl rfl rfl (hv_box rfl rfl) ?_
  rintro v0_1 H0_1 ⟨b0_1, rfl, hN0_1⟩
  have gb0_1 := hX.fresh hN0_1
  have nm0_0_0_1 := m0_0.apart hN0_1
  have m0_0 := m0_0.ext hN0_1.ext
  have hX := hX.trans hN0_1.ext
  have m0_1 := hN0_1.blk
  refine xl_pure rfl rfl rfl (pv_assign (v := .bool _) rfl rfl) ?_
  refine xl_nil ?_
  refine xthen_normal ?_
  refine xc_seq ?_
  refine xc_seq ?_
  refine xc_region ?_
  refine xl_pure rfl rfl rfl (pv_fieldAddr rfl rfl) ?_
  refine xl_light rfl rfl rfl (lv_load (v := .int _ _) rfl rfl (ld_blk m0_0 rfl)) ?_
  refine xl_pure rfl rfl rfl (pv_fieldAddr rfl rfl) ?_
  refine xl_light rfl rfl rfl (lv_load (v := .int _ _) rfl rfl (ld_blk m0_1 rfl)) ?_
  refine xl_ndec rfl rfl rfl (pv_neq rfl rfl rfl) (fun h1_4 => ?_) (fun h1_4 => ?_)
  · skip
    refine xl_nil ?_
    refine xthen_normal ?_
    refine xc_cond_f rfl ?_
    refine xc_skip ?_
    refine xthen_normal ?_
    refine xc_seq ?_
    refine xc_seq ?_
    refine xc_region ?_
    refine xl_pure rfl rfl rfl (pv_fieldAddr rfl rfl) ?_
    refine xl_light rfl rfl rfl (lv_load (v := .int _ _) rfl rfl (ld_blk m0_0 rfl)) ?_
    refine xl_pure rfl rfl rfl (pv_fieldAddr rfl rfl) ?_
    refine xl_light rfl rfl rfl (lv_load (v := .int _ _) rfl rfl (ld_blk m0_1 rfl)) ?_
    refine xl_ndec rfl rfl rfl (pv_neq rfl rfl rfl) (fun h3_4 => ?_) (fun h3_4 => ?_)
    · skip
      refine xl_nil ?_
      refine xthen_normal ?_
      refine xc_cond_f rfl ?_
      refine xc_skip ?_
      refine xthen_normal ?_
      refine xc_seq ?_
      refine xc_seq ?_
      refine xc_region ?_
      refine xl_pure rfl rfl rfl (pv_fieldAddr rfl rfl) ?_
      refine xl_light rfl rfl rfl (lv_load (v := .int _ _) rfl rfl (ld_blk m0_0 rfl)) ?_
      refine xl_pure rfl rfl rfl (pv_fieldAddr rfl rfl) ?_
      refine xl_light rfl rfl rfl (lv_load (v := .int _ _) rfl rfl (ld_blk m0_1 rfl)) ?_
      refine xl_ndec rfl rfl rfl (pv_neq rfl rfl rfl) (fun h5_4 => ?_) (fun h5_4 => ?_)
      · skip
        refine xl_nil ?_
        refine xthen_normal ?_
        refine xc_cond_f rfl ?_
        refine xc_skip ?_
        refine xthen_normal ?_
        refine xc_seq ?_
        refine xc_region ?_
        refine xl_pure rfl rfl rfl (pv_fieldAddr rfl rfl) ?_
        refine xl_light rfl rfl rfl (lv_load (v := .int _ _) rfl rfl (ld_blk m0_0 rfl)) ?_
        refine xl_pure rfl rfl rfl (pv_fieldAddr rfl rfl) ?_
        refine xl_light rfl rfl rfl (lv_load (v := .int _ _) rfl rfl (ld_blk m0_1 rfl)) ?_
        refine xl_dec rfl rfl rfl (pv_lss rfl rfl rfl) (fun h7_4 => ?_) (fun h7_4 => ?_)
        · skip
          refine xl_pure rfl rfl rfl (pv_assign (v := .bool _) rfl rfl) ?_
          refine xl_nil ?_
          refine xthen_normal ?_
          refine xc_ret ?_
          refine fin_ret (res1 (v := .bool _) rfl rfl) ?_
          first
            | exact ⟨.inl ⟨by rw [kcmp4]; omega, rfl⟩, hX⟩
            | exact ⟨.inr ⟨by rw [kcmp4]; omega, rfl⟩, hX⟩
        · skip
          refine xl_pure rfl rfl rfl (pv_assign (v := .bool _) rfl rfl) ?_
          refine xl_nil ?_
          refine xthen_normal ?_
          refine xc_ret ?_
          refine fin_ret (res1 (v := .bool _) rfl rfl) ?_
          first
            | exact ⟨.inl ⟨by rw [kcmp4]; omega, rfl⟩, hX⟩
            | exact ⟨.inr ⟨by rw [kcmp4]; omega, rfl⟩, hX⟩
      · skip
        refine xl_nil ?_
        refine xthen_normal ?_
        refine xc_cond_t rfl ?_
        refine xc_seq ?_
        refine xc_region ?_
        refine xl_pure rfl rfl rfl (pv_fieldAddr rfl rfl) ?_
        refine xl_light rfl rfl rfl (lv_load (v := .int _ _) rfl rfl (ld_blk m0_0 rfl)) ?_
        refine xl_pure rfl rfl rfl (pv_fieldAddr rfl rfl) ?_
        refine xl_light rfl rfl rfl (lv_load (v := .int _ _) rfl rfl (ld_blk m0_1 rfl)) ?_
        refine xl_dec rfl rfl rfl (pv_lss rfl rfl rfl) (fun h6_4 => ?_) (fun h6_4 => ?_)
        · skip
          refine xl_pure rfl rfl rfl (pv_assign (v := .bool _) rfl rfl) ?_
          refine xl_nil ?_
          refine xthen_normal ?_
          refine xc_ret ?_
          refine xthen_ret ?_
          refine fin_ret (res1 (v := .bool _) rfl rfl) ?_
          first
            | exact ⟨.inl ⟨by rw [kcmp4]; omega, rfl⟩, hX⟩
            | exact ⟨.inr ⟨by rw [kcmp4]; omega, rfl⟩, hX⟩
        · skip
          refine xl_pure rfl rfl rfl (pv_assign (v := .bool _) rfl rfl) ?_
          refine xl_nil ?_
          refine xthen_normal ?_
          refine xc_ret ?_
          refine xthen_ret ?_
          refine fin_ret (res1 (v := .bool _) rfl rfl) ?_
          first
            | exact ⟨.inl ⟨by rw [kcmp4]; omega, rfl⟩, hX⟩
            | exact ⟨.inr ⟨by rw [kcmp4]; omega, rfl⟩, hX⟩
    · skip
      refine xl_nil ?_
      refine xthen_normal ?_
      refine xc_cond_t rfl ?_
      refine xc_seq ?_
      refine xc_region ?_
      refine xl_pure rfl rfl rfl (pv_fieldAddr rfl rfl) ?_
      refine xl_light rfl rfl rfl (lv_load (v := .int _ _) rfl rfl (ld_blk m0_0 rfl)) ?_
      refine xl_pure rfl rfl rfl (pv_fieldAddr rfl rfl) ?_
      refine xl_light rfl rfl rfl (lv_load (v := .int _ _) rfl rfl (ld_blk m0_1 rfl)) ?_
      refine xl_dec rfl rfl rfl (pv_lss rfl rfl rfl) (fun h4_4 => ?_) (fun h4_4 => ?_)
      · skip
        refine xl_pure rfl rfl rfl (pv_assign (v := .bool _) rfl rfl) ?_
        refine xl_nil ?_
        refine xthen_normal ?_
        refine xc_ret ?_
        refine xthen_ret ?_
        refine fin_ret (res1 (v := .bool _) rfl rfl) ?_
        first
          | exact ⟨.inl ⟨by rw [kcmp4]; omega, rfl⟩, hX⟩
          | exact ⟨.inr ⟨by rw [kcmp4]; omega, rfl⟩, hX⟩
      · skip
        refine xl_pure rfl rfl rfl (pv_assign (v := .bool _) rfl rfl) ?_
        refine xl_nil ?_
        refine xthen_normal ?_
        refine xc_ret ?_
        refine xthen_ret ?_
        refine fin_ret (res1 (v := .bool _) rfl rfl) ?_
        first
          | exact ⟨.inl ⟨by rw [kcmp4]; omega, rfl⟩, hX⟩
          | exact ⟨.inr ⟨by rw [kcmp4]; omega, rfl⟩, hX⟩
  · skip
    refine xl_nil ?_
    refine xthen_normal ?_
    refine xc_cond_t rfl ?_
    refine xc_seq ?_
    refine xc_region ?_
    refine xl_pure rfl rfl rfl (pv_fieldAddr rfl rfl) ?_
    refine xl_light rfl rfl rfl (lv_load (v := .int _ _) rfl rfl (ld_blk m0_0 rfl)) ?_
    refine xl_pure rfl rfl rfl (pv_fieldAddr rfl rfl) ?_
    refine xl_light rfl rfl rfl (lv_load (v := .int _ _) rfl rfl (ld_blk m0_1 rfl)) ?_
    refine xl_dec rfl rfl rfl (pv_lss rfl rfl rfl) (fun h2_4 => ?_) (fun h2_4 => ?_)
    · skip
      refine xl_pure rfl rfl rfl (pv_assign (v := .bool _) rfl rfl) ?_
      refine xl_nil ?_
      refine xthen_normal ?_
      refine xc_ret ?_
      refine xthen_ret ?_
      refine fin_ret (res1 (v := .bool _) rfl rfl) ?_
      first
        | exact ⟨.inl ⟨by rw [kcmp4]; omega, rfl⟩, hX⟩
        | exact ⟨.inr ⟨by rw [kcmp4]; omega, rfl⟩, hX⟩
    · skip
      refine xl_pure rfl rfl rfl (pv_assign (v := .bool _) rfl rfl) ?_
      refine xl_nil ?_
      refine xthen_normal ?_
      refine xc_ret ?_
      refine xthen_ret ?_
      refine fin_ret (res1 (v := .bool _) rfl rfl) ?_
      first
        | exact ⟨.inl ⟨by rw [kcmp4]; omega, rfl⟩, hX⟩
        | exact ⟨.inr ⟨by rw [kcmp4]; omega, rfl⟩, hX⟩

theorem c80k {O : Outer} {H : Heap} (a b : List Int) (ha : a.length = 4) (hb : b.length = 4) :
    FnC Try.prog 80 #[.agg (ints a).toArray, .agg (ints b).toArray] O H (fun v H' => (kcmp a b < 0 ∧ v = .bool true ∨ ¬ kcmp a b < 0 ∧ v = .bool false) ∧ Ext H H') := by
  obtain ⟨a0, a1, a2, a3, rfl⟩ := four ha
  obtain ⟨b0, b1, b2, b3, rfl⟩ := four hb
  exact c80 a0 a1 a2 a3 b0 b1 b2 b3

theorem c49 {O : Outer} {H : Heap} {a : Option Addr} {c : Nat} {l : List (List Int)} (hx : RowsT H 99 5 a l) (hs : Srt l) (hl : l.length < 1000000) (k : List Int) (hk : k.length = 4) :
    FnC Try.prog 49 #[.slice a l.length c, .agg (ints k).toArray] O H (fun v H' => v = .int .i64 (qtyB l k) ∧ Ext H H') := by
  refine fn_enter (A := [.slice a l.length c, .agg (ints k).toArray]) Try.func49 rfl rfl ?_
  have hX := Ext.refl H
  refine xc_seq ?_
  refine xc_region ?_
  refine xl_heavy rfl rfl rfl (hv_box rfl rfl) ?_
  rintro v0_0 H0_0 ⟨b0_0, rfl, hN0_0⟩
  have gb0_0 := hX.fresh hN0_0
  have hX := hX.trans hN0_0.ext
  have m0_0 := hN0_0.blk
  refine xl_pure rfl rfl rfl (pv_assign (v := .int _ _) rfl rfl) ?_
  refine xl_nil ?_
  refine xthen_normal ?_
  refine xc_seq ?_
  refine xc_seq ?_
  refine xc_region ?_
  refine xl_pure rfl rfl rfl (pv_assign (v := .int _ _) rfl rfl) ?_
  refine xl_nil ?_
  refine xthen_normal ?_
  refine xc_block ?_
  refine xc_loop (τ := Nat) (fun t => [(0, .slice a l.length c), (3, .pointer (some ⟨b0_0, 0, none⟩)), (5, .int .i64 (t : Nat))]) (fun t H' => (t ≤ l.length) ∧ (∀ j, j < t → ky (gr l j) ≠ k) ∧ (Blk H' b0_0 (ints k) 37) ∧ (Ext H H')) (fun t H' => l.length - t) 0 ?_ ?_ ?_
  · exact ⟨rfl, rfl, rfl, trivial⟩
  · skip
    exact ⟨Nat.zero_le _, fun j hj => absurd hj (by omega), m0_0, hX⟩
  · intro σ
    clear hX m0_0
    rintro i Hl2 ⟨hi, hlo, m0_0, hX⟩
    replace hi : i ≤ l.length := hi
    replace hlo : ∀ j, j < i → ky (gr l j) ≠ k := hlo
    replace m0_0 : Blk Hl2 b0_0 (ints k) 37 := m0_0
    replace hX : Ext H Hl2 := hX
    obtain ⟨ba, off, hae⟩ := (hx.ext hX).at
    show XC _ _ _ (upds σ [(0, .slice a l.length c), (3, .pointer (some ⟨b0_0, 0, none⟩)), (5, .int .i64 (i : Nat))]) _
    refine xc_seq ?_
    refine xc_seq ?_
    refine xc_region ?_
    refine xl_pure rfl rfl rfl (pv_move (v := .int _ _) rfl rfl) ?_
    refine xl_pure rfl rfl rfl (pv_move (v := .slice _ _ _) rfl rfl) ?_
    refine xl_pure rfl rfl rfl (pv_len_l rfl rfl) ?_
    refine xl_dec rfl rfl rfl (pv_lss rfl rfl rfl) (fun h2_3 => ?_) (fun h2_3 => ?_)
    · skip
      refine xl_nil ?_
      refine xthen_normal ?_
      refine xc_cond_t rfl ?_
      refine xc_skip ?_
      refine xthen_normal ?_
      refine xc_seq ?_
      refine xc_block ?_
      refine xc_seq ?_
      refine xp_start rfl (by repeat (first | with_reducible exact np_fin | with_reducible exact np_ret | with_reducible refine np_then ?_ | with_reducible refine np_block ?_)) (by kernel_rfl) ?_
      refine xp_pure (i := 0) rfl (by kernel_rfl) (by kernel_rfl) rfl rfl rfl (pv_move (v := .slice _ _ _) rfl rfl) ?_
      refine xp_pure (i := 1) rfl (by kernel_rfl) (by kernel_rfl) rfl rfl rfl (pv_move (v := .int _ _) rfl rfl) ?_
      refine xp_pure (i := 2) rfl (by kernel_rfl) (by kernel_rfl) rfl rfl rfl (pv_indexAddr_l rfl (sl_eq (hae (by omega)).1) rfl (by omega)) ?_
      refine xp_pure (i := 3) rfl (by kernel_rfl) (by kernel_rfl) rfl rfl rfl (pv_fieldAddr rfl rfl) ?_
      refine xp_light (i := 4) rfl (by kernel_rfl) (by kernel_rfl) rfl rfl rfl (lv_load (v := .agg _) rfl rfl (by exact ld_rky (hae (by omega)).2 hx.wide (by decide) (by omega))) ?_
      refine xp_light (i := 5) rfl (by kernel_rfl) (by kernel_rfl) rfl rfl rfl (lv_load (v := .agg _) rfl rfl (by exact ld_ints m0_0 hk)) ?_
      refine xp_dec (i := 6) rfl (by kernel_rfl) (by kernel_rfl) rfl rfl rfl (pv_eql_g (ky (gr l i)) k rfl rfl rfl (ky_len (hx.wide.get (by omega)) (by decide)) hk) (fun h4_6 => ?_) (fun h4_6 => ?_)
      · skip
        refine xp_done (by kernel_rfl) ?_
        refine xthen_normal ?_
        refine xc_cond_t rfl ?_
        refine xc_seq ?_
        refine xc_region ?_
        refine xl_pure rfl rfl rfl (pv_move (v := .slice _ _ _) rfl rfl) ?_
        refine xl_pure rfl rfl rfl (pv_move (v := .int _ _) rfl rfl) ?_
        refine xl_pure rfl rfl rfl (pv_indexAddr_l rfl (sl_eq (hae (by omega)).1) rfl (by omega)) ?_
        refine xl_pure rfl rfl rfl (pv_fieldAddr rfl rfl) ?_
        refine xl_light rfl rfl rfl (lv_load (v := .int _ _) rfl rfl (by exact ld_num (j := 4) (hae (by omega)).2 hx.wide (by omega) (by decide))) ?_
        refine xl_pure rfl rfl rfl (pv_assign (v := .int _ _) rfl rfl) ?_
        refine xl_nil ?_
        refine xthen_normal ?_
        refine xc_ret ?_
        refine xblock_ret ?_
        refine xthen_ret ?_
        refine xthen_ret ?_
        refine xblock_ret ?_
        refine xthen_ret ?_
        refine fin_ret (res1 (v := .int _ _) rfl rfl) ?_
        exact ⟨iv (qty_at hs hx.wide hk (by omega) h4_6).symm, hX⟩
      · skip
        refine xp_done (by kernel_rfl) ?_
        refine xthen_normal ?_
        refine xc_cond_f rfl ?_
        refine xc_skip ?_
        refine xblock_normal ?_
        refine xthen_normal ?_
        refine xc_region ?_
        refine xl_pure rfl rfl rfl (pv_move (v := .int _ _) rfl rfl) ?_
        refine xl_pure rfl rfl rfl (pv_add rfl rfl rfl (fit_i64 (by omega))) ?_
        refine xl_pure rfl rfl rfl (pv_assign (v := .int _ _) rfl rfl) ?_
        refine xl_nil ?_
        refine xthen_normal ?_
        exact ⟨i + 1, ⟨rfl, rfl, rfl, trivial⟩, ⟨by (try simp only); omega, all_next hlo h4_6, m0_0, hX⟩, by (try simp only); omega⟩
    · skip
      refine xl_nil ?_
      refine xthen_normal ?_
      refine xc_cond_f rfl ?_
      refine xc_exit ?_
      refine xthen_exit ?_
      refine xthen_exit ?_
      refine xblock_same ?_
      refine xthen_normal ?_
      refine xc_seq ?_
      refine xc_region ?_
      refine xl_pure rfl rfl rfl (pv_assign (v := .int _ _) rfl rfl) ?_
      refine xl_nil ?_
      refine xthen_normal ?_
      refine xc_ret ?_
      refine fin_ret (res1 (v := .int _ _) rfl rfl) ?_
      exact ⟨iv (qty_no hs hx.wide hk (fun j hj => hlo j (by omega))).symm, hX⟩

theorem c50 {O : Outer} {H : Heap} {a : Option Addr} {c : Nat} {l : List (List Int)} (hx : RowsT H 99 5 a l) (hs : Srt l) (hl : l.length < 1000000) (k : List Int) (hk : k.length = 4) (n : Int) :
    FnC Try.prog 50 #[.slice a l.length c, .agg (ints k).toArray, .int .i64 n] O H (fun v H' => ∃ a' c', v = .slice a' (setB l k n).length c' ∧ RowsT H' 99 5 a' (setB l k n) ∧ Ext H H') := by
  have hw := hx.wide
  have hk5 : (k ++ [n]).length = 5 := by simp [hk]
  refine fn_enter (A := [.slice a l.length c, .agg (ints k).toArray, .int .i64 n]) Try.func50 rfl rfl ?_
  have hX := Ext.refl H
  refine xc_seq ?_
  refine xc_region ?_
  refine xl_heavy rfl rfl rfl (hv_box rfl rfl) ?_
  rintro v0_0 H0_0 ⟨b0_0, rfl, hN0_0⟩
  have gb0_0 := hX.fresh hN0_0
  have hX := hX.trans hN0_0.ext
  have m0_0 := hN0_0.blk
  refine xl_pure rfl rfl rfl (pv_assign (v := .slice _ _ _) rfl rfl) ?_
  refine xl_nil ?_
  refine xthen_normal ?_
  refine xc_seq ?_
  refine xc_region ?_
  refine xl_pure rfl rfl rfl (pv_assign (v := .slice _ _ _) rfl rfl) ?_
  refine xl_nil ?_
  refine xthen_normal ?_
  refine xc_seq ?_
  refine xc_region ?_
  refine xl_pure rfl rfl rfl (pv_move (v := .int _ _) rfl rfl) ?_
  refine xl_dec rfl rfl rfl (pv_eql rfl rfl rfl) (fun h2_1 => ?_) (fun h2_1 => ?_)
  · skip
    refine xl_pure rfl rfl rfl (pv_assign (v := .bool _) rfl rfl) ?_
    refine xl_nil ?_
    refine xthen_normal ?_
    refine xc_seq ?_
    refine xc_seq ?_
    refine xc_region ?_
    refine xl_pure rfl rfl rfl (pv_assign (v := .int _ _) rfl rfl) ?_
    refine xl_nil ?_
    refine xthen_normal ?_
    refine xc_block ?_
    refine xc_loop (τ := Nat × Bool × List (List Int) × Option Addr × Nat) (fun t => [(0, .slice a l.length c), (2, .int .i64 n), (4, .pointer (some ⟨b0_0, 0, none⟩)), (7, .slice t.2.2.2.1 t.2.2.1.length t.2.2.2.2), (8, .bool t.2.1), (9, .int .i64 (t.1 : Nat))]) (fun t H' => (t.1 ≤ l.length) ∧ (SetI l k n t.1 t.2.1 t.2.2.1) ∧ (Blk H' b0_0 (ints k) 37) ∧ (Own H' H.size 99 5 (.slice t.2.2.2.1 t.2.2.1.length t.2.2.2.2) t.2.2.1.length (fr t.2.2.1)) ∧ (Ext H H')) (fun t H' => l.length - t.1) (0, true, [], none, 0) ?_ ?_ ?_
    · exact ⟨rfl, rfl, rfl, rfl, rfl, rfl, trivial⟩
    · skip
      exact ⟨Nat.zero_le _, .inr (.inl ⟨rfl, h2_1, rfl⟩), m0_0, by simpa [fr] using Own.nil _ H.size 99 5, hX⟩
    · intro σ
      clear hX m0_0
      rintro ⟨i, dn, out, va, vc⟩ Hl4 ⟨hi, hI, m0_0, ho, hX⟩
      replace hi : i ≤ l.length := hi
      replace hI : SetI l k n i dn out := hI
      replace m0_0 : Blk Hl4 b0_0 (ints k) 37 := m0_0
      replace ho : Own Hl4 H.size 99 5 (.slice va out.length vc) out.length (fr out) := ho
      replace hX : Ext H Hl4 := hX
      obtain ⟨ba, off, hae⟩ := (hx.ext hX).at
      have hol := hI.len hi
      show XC _ _ _ (upds σ [(0, .slice a l.length c), (2, .int .i64 n), (4, .pointer (some ⟨b0_0, 0, none⟩)), (7, .slice va out.length vc), (8, .bool dn), (9, .int .i64 (i : Nat))]) _
      refine xc_seq ?_
      refine xc_seq ?_
      refine xc_region ?_
      refine xl_pure rfl rfl rfl (pv_move (v := .int _ _) rfl rfl) ?_
      refine xl_pure rfl rfl rfl (pv_move (v := .slice _ _ _) rfl rfl) ?_
      refine xl_pure rfl rfl rfl (pv_len_l rfl rfl) ?_
      refine xl_dec rfl rfl rfl (pv_lss rfl rfl rfl) (fun h4_3 => ?_) (fun h4_3 => ?_)
      · skip
        refine xl_nil ?_
        refine xthen_normal ?_
        refine xc_cond_t rfl ?_
        refine xc_skip ?_
        refine xthen_normal ?_
        refine xc_seq ?_
        refine xc_block ?_
        refine xc_seq ?_
        refine xc_seq ?_
        have hil : i < l.length := by omega
        have hr5 := hw.get hil
        have hk4 := ky_len hr5 (by decide)
        refine xp_start rfl (by repeat (first | with_reducible exact np_fin | with_reducible exact np_ret | with_reducible refine np_then ?_ | with_reducible refine np_block ?_)) (by kernel_rfl) ?_
        refine xp_pure (i := 0) rfl (by kernel_rfl) (by kernel_rfl) rfl rfl rfl (pv_move (v := .bool _) rfl rfl) ?_
        cases dn
        · skip
          refine xp_pure (i := 1) rfl (by kernel_rfl) (by kernel_rfl) rfl rfl rfl (pv_not rfl rfl) ?_
          refine xp_pure (i := 2) rfl (by kernel_rfl) (by kernel_rfl) rfl rfl rfl (pv_move (v := .bool _) rfl rfl) ?_
          refine xp_light (i := 3) rfl (by kernel_rfl) (by kernel_rfl) rfl rfl rfl (lv_load (v := .agg _) rfl rfl (by exact ld_ints m0_0 hk)) ?_
          refine xp_pure (i := 4) rfl (by kernel_rfl) (by kernel_rfl) rfl rfl rfl (pv_move (v := .slice _ _ _) rfl rfl) ?_
          refine xp_pure (i := 5) rfl (by kernel_rfl) (by kernel_rfl) rfl rfl rfl (pv_move (v := .int _ _) rfl rfl) ?_
          refine xp_pure (i := 6) rfl (by kernel_rfl) (by kernel_rfl) rfl rfl rfl (pv_indexAddr_l rfl (sl_eq (hae (by omega)).1) rfl (by omega)) ?_
          refine xp_pure (i := 7) rfl (by kernel_rfl) (by kernel_rfl) rfl rfl rfl (pv_fieldAddr rfl rfl) ?_
          refine xp_light (i := 8) rfl (by kernel_rfl) (by kernel_rfl) rfl rfl rfl (lv_load (v := .agg _) rfl rfl (by exact ld_rky (hae (by omega)).2 hw (by decide) (by omega))) ?_
          refine xp_heavy (i := 9) (by kernel_rfl) ?_
          refine xph_val rfl rfl rfl rfl (hv_call (g := 80) rfl rfl (c80k k (ky (gr l i)) hk hk4) rfl) (pd (by kernel_rfl) (pd (by kernel_rfl) pn)) ?_
          rintro v6_9 H6_9 ⟨hv6_9, hE6_9⟩
          have m0_0 := m0_0.ext hE6_9
          have ho := ho.ext hE6_9
          have hX := hX.trans hE6_9
          refine ⟨okn, ?_⟩
          rcases hv6_9 with ⟨hc6_9, rfl⟩ | ⟨hc6_9, rfl⟩
          · skip
            refine xp_pure (i := 10) rfl (by kernel_rfl) (by kernel_rfl) rfl rfl rfl (pv_pick_t (v := .bool _) rfl rfl rfl) ?_
            refine xp_done (by kernel_rfl) ?_
            refine xthen_normal ?_
            refine xc_cond_t rfl ?_
            refine xc_seq ?_
            refine xc_region ?_
            refine xl_pure rfl rfl rfl (pv_move (v := .slice _ _ _) rfl rfl) ?_
            refine xl_light rfl rfl rfl (lv_load (v := .agg _) rfl rfl (by exact ld_ints m0_0 hk)) ?_
            refine xl_pure rfl rfl rfl (pv_move (v := .int _ _) rfl rfl) ?_
            refine xl_pure rfl rfl rfl (pv_build_pair (xs := ints k) (ys := [.int .i64 n]) rfl rfl rfl rfl rfl (by rw [ints_ten hk]; rfl) (by rw [ints_ten hk]; rfl) (by rw [ints_ten hk]; rfl)) ?_
            refine xl_heavy rfl rfl rfl (hv_buildSlice (cs := ints (k ++ [n])) rfl rfl (by rw [← ints_app]; exact parts1 (by simp [ints, hk])) rfl rfl) ?_
            rintro v7_4 H7_4 ⟨b7_4, rfl, hN7_4⟩
            have gb7_4 := hX.fresh hN7_4
            have nm0_0_7_4 := m0_0.apart hN7_4
            have pm7_4_ho := ho.apartN hN7_4
            have m0_0 := m0_0.ext hN7_4.ext
            have ho := ho.ext hN7_4.ext
            have hX := hX.trans hN7_4.ext
            have m7_4 := hN7_4.blk
            refine xl_heavy rfl rfl rfl (hv_append (size := 5) rfl rfl ho rfl m7_4.row (by simpa using ints_ten hk5) (ints_mem _) rfl (by decide) (by omega) (by omega) hX.size) ?_
            rintro v7_5 H7_5 ⟨hO7_5, hG7_5, -, hB7_5⟩
            have m0_0 := m0_0.offT ho hG7_5 rfl
            have hX := ho.grown hX hG7_5 (Nat.le_refl _)
            obtain ⟨a7_5, c7_5, rfl⟩ := hO7_5.val
            refine xl_pure rfl rfl rfl (pv_assign (v := .slice _ _ _) rfl rfl) ?_
            refine xl_nil ?_
            refine xthen_normal ?_
            refine xc_region ?_
            refine xl_pure rfl rfl rfl (pv_assign (v := .bool _) rfl rfl) ?_
            refine xl_nil ?_
            refine xthen_normal ?_
            refine xc_seq ?_
            obtain ⟨ba, off, hae⟩ := (hx.ext hX).at
            refine xp_start rfl (by repeat (first | with_reducible exact np_fin | with_reducible exact np_ret | with_reducible refine np_then ?_ | with_reducible refine np_block ?_)) (by kernel_rfl) ?_
            refine xp_pure (i := 0) rfl (by kernel_rfl) (by kernel_rfl) rfl rfl rfl (pv_move (v := .slice _ _ _) rfl rfl) ?_
            refine xp_pure (i := 1) rfl (by kernel_rfl) (by kernel_rfl) rfl rfl rfl (pv_move (v := .int _ _) rfl rfl) ?_
            refine xp_pure (i := 2) rfl (by kernel_rfl) (by kernel_rfl) rfl rfl rfl (pv_indexAddr_l rfl (sl_eq (hae (by omega)).1) rfl (by omega)) ?_
            refine xp_pure (i := 3) rfl (by kernel_rfl) (by kernel_rfl) rfl rfl rfl (pv_fieldAddr rfl rfl) ?_
            refine xp_light (i := 4) rfl (by kernel_rfl) (by kernel_rfl) rfl rfl rfl (lv_load (v := .agg _) rfl rfl (by exact ld_rky (hae (by omega)).2 hw (by decide) (by omega))) ?_
            refine xp_light (i := 5) rfl (by kernel_rfl) (by kernel_rfl) rfl rfl rfl (lv_load (v := .agg _) rfl rfl (by exact ld_ints m0_0 hk)) ?_
            refine xp_ndec (i := 6) rfl (by kernel_rfl) (by kernel_rfl) rfl rfl rfl (pv_neq_g (ky (gr l i)) k rfl rfl rfl hk4 hk) (fun h9_6 => ?_) (fun h9_6 => ?_)
            · skip
              refine xp_done (by kernel_rfl) ?_
              refine xthen_normal ?_
              refine xc_cond_f rfl ?_
              refine xc_skip ?_
              refine xblock_normal ?_
              refine xthen_normal ?_
              refine xc_region ?_
              refine xl_pure rfl rfl rfl (pv_move (v := .int _ _) rfl rfl) ?_
              refine xl_pure rfl rfl rfl (pv_add rfl rfl rfl (fit_i64 (by omega))) ?_
              refine xl_pure rfl rfl rfl (pv_assign (v := .int _ _) rfl rfl) ?_
              refine xl_nil ?_
              refine xthen_normal ?_
              first
                | exact ⟨(i + 1, _, (out ++ [k ++ [n]] ++ [gr l i]), _, _), ⟨rfl, rfl, rfl, slv (by simp), rfl, rfl, trivial⟩, ⟨by (try simp only); omega, by have h := (hI.ins hs hw hk hil rfl hc6_9).row hs hw hk hil (fun h => by cases h); rw [if_pos h9_6] at h; exact h, m0_0, by simpa [fr_app, fr] using hO10_6, hX⟩, by (try simp only); omega⟩
                | exact ⟨(i + 1, _, (out ++ [k ++ [n]]), _, _), ⟨rfl, rfl, rfl, slv (by simp), rfl, rfl, trivial⟩, ⟨by (try simp only); omega, by have h := (hI.ins hs hw hk hil rfl hc6_9).row hs hw hk hil (fun h => by cases h); rw [if_neg (fun h2 => h2 h9_6), List.append_nil] at h; exact h, m0_0, by simpa [fr_app, fr] using hO7_5, hX⟩, by (try simp only); omega⟩
                | exact ⟨(i + 1, _, (out ++ [gr l i]), _, _), ⟨rfl, rfl, rfl, slv (by simp), rfl, rfl, trivial⟩, ⟨by (try simp only); omega, by have h := hI.row hs hw hk hil (by first | exact fun _ => hc6_9 | exact fun h => by cases h); rw [if_pos h9_6] at h; exact h, m0_0, by simpa [fr_app, fr] using hO10_6, hX⟩, by (try simp only); omega⟩
                | exact ⟨(i + 1, _, out, _, _), ⟨rfl, rfl, rfl, slv (by simp), rfl, rfl, trivial⟩, ⟨by (try simp only); omega, by have h := hI.row hs hw hk hil (by first | exact fun _ => hc6_9 | exact fun h => by cases h); rw [if_neg (fun h2 => h2 h9_6), List.append_nil] at h; exact h, m0_0, by simpa [fr_app, fr] using ho, hX⟩, by (try simp only); omega⟩
            · skip
              refine xp_done (by kernel_rfl) ?_
              refine xthen_normal ?_
              refine xc_cond_t rfl ?_
              obtain ⟨ba, off, hae⟩ := (hx.ext hX).at
              refine xc_region ?_
              refine xl_pure rfl rfl rfl (pv_move (v := .slice _ _ _) rfl rfl) ?_
              refine xl_pure rfl rfl rfl (pv_move (v := .slice _ _ _) rfl rfl) ?_
              refine xl_pure rfl rfl rfl (pv_move (v := .int _ _) rfl rfl) ?_
              refine xl_pure rfl rfl rfl (pv_indexAddr_l rfl (sl_eq (hae (by omega)).1) rfl (by omega)) ?_
              refine xl_light rfl rfl rfl (lv_load (v := .agg _) rfl rfl (by exact ld_row' (hae (by omega)).2 hw (by omega))) ?_
              refine xl_heavy rfl rfl rfl (hv_buildSlice (cs := ints (gr l i)) rfl rfl (parts1 (ints_ten hr5)) rfl rfl) ?_
              rintro v10_5 H10_5 ⟨b10_5, rfl, hN10_5⟩
              have gb10_5 := hX.fresh hN10_5
              have nm0_0_10_5 := m0_0.apart hN10_5
              have pm10_5_hO7_5 := hO7_5.apartN hN10_5
              have m0_0 := m0_0.ext hN10_5.ext
              have hO7_5 := hO7_5.ext hN10_5.ext
              have hX := hX.trans hN10_5.ext
              have m10_5 := hN10_5.blk
              refine xl_heavy rfl rfl rfl (hv_append (size := 5) rfl rfl hO7_5 rfl m10_5.row (by simpa using ints_ten hr5) (ints_mem _) rfl (by decide) (by omega) (by omega) hX.size) ?_
              rintro v10_6 H10_6 ⟨hO10_6, hG10_6, -, hB10_6⟩
              have m0_0 := m0_0.offT hO7_5 hG10_6 rfl
              have hX := hO7_5.grown hX hG10_6 (Nat.le_refl _)
              obtain ⟨a10_6, c10_6, rfl⟩ := hO10_6.val
              refine xl_pure rfl rfl rfl (pv_assign (v := .slice _ _ _) rfl rfl) ?_
              refine xl_nil ?_
              refine xblock_normal ?_
              refine xthen_normal ?_
              refine xc_region ?_
              refine xl_pure rfl rfl rfl (pv_move (v := .int _ _) rfl rfl) ?_
              refine xl_pure rfl rfl rfl (pv_add rfl rfl rfl (fit_i64 (by omega))) ?_
              refine xl_pure rfl rfl rfl (pv_assign (v := .int _ _) rfl rfl) ?_
              refine xl_nil ?_
              refine xthen_normal ?_
              first
                | exact ⟨(i + 1, _, (out ++ [k ++ [n]] ++ [gr l i]), _, _), ⟨rfl, rfl, rfl, slv (by simp), rfl, rfl, trivial⟩, ⟨by (try simp only); omega, by have h := (hI.ins hs hw hk hil rfl hc6_9).row hs hw hk hil (fun h => by cases h); rw [if_pos h9_6] at h; exact h, m0_0, by simpa [fr_app, fr] using hO10_6, hX⟩, by (try simp only); omega⟩
                | exact ⟨(i + 1, _, (out ++ [k ++ [n]]), _, _), ⟨rfl, rfl, rfl, slv (by simp), rfl, rfl, trivial⟩, ⟨by (try simp only); omega, by have h := (hI.ins hs hw hk hil rfl hc6_9).row hs hw hk hil (fun h => by cases h); rw [if_neg (fun h2 => h2 h9_6), List.append_nil] at h; exact h, m0_0, by simpa [fr_app, fr] using hO7_5, hX⟩, by (try simp only); omega⟩
                | exact ⟨(i + 1, _, (out ++ [gr l i]), _, _), ⟨rfl, rfl, rfl, slv (by simp), rfl, rfl, trivial⟩, ⟨by (try simp only); omega, by have h := hI.row hs hw hk hil (by first | exact fun _ => hc6_9 | exact fun h => by cases h); rw [if_pos h9_6] at h; exact h, m0_0, by simpa [fr_app, fr] using hO10_6, hX⟩, by (try simp only); omega⟩
                | exact ⟨(i + 1, _, out, _, _), ⟨rfl, rfl, rfl, slv (by simp), rfl, rfl, trivial⟩, ⟨by (try simp only); omega, by have h := hI.row hs hw hk hil (by first | exact fun _ => hc6_9 | exact fun h => by cases h); rw [if_neg (fun h2 => h2 h9_6), List.append_nil] at h; exact h, m0_0, by simpa [fr_app, fr] using ho, hX⟩, by (try simp only); omega⟩
          · skip
            refine xp_pure (i := 10) rfl (by kernel_rfl) (by kernel_rfl) rfl rfl rfl (pv_pick_t (v := .bool _) rfl rfl rfl) ?_
            refine xp_done (by kernel_rfl) ?_
            refine xthen_normal ?_
            refine xc_cond_f rfl ?_
            refine xc_skip ?_
            refine xthen_normal ?_
            refine xc_seq ?_
            obtain ⟨ba, off, hae⟩ := (hx.ext hX).at
            refine xp_start rfl (by repeat (first | with_reducible exact np_fin | with_reducible exact np_ret | with_reducible refine np_then ?_ | with_reducible refine np_block ?_)) (by kernel_rfl) ?_
            refine xp_pure (i := 0) rfl (by kernel_rfl) (by kernel_rfl) rfl rfl rfl (pv_move (v := .slice _ _ _) rfl rfl) ?_
            refine xp_pure (i := 1) rfl (by kernel_rfl) (by kernel_rfl) rfl rfl rfl (pv_move (v := .int _ _) rfl rfl) ?_
            refine xp_pure (i := 2) rfl (by kernel_rfl) (by kernel_rfl) rfl rfl rfl (pv_indexAddr_l rfl (sl_eq (hae (by omega)).1) rfl (by omega)) ?_
            refine xp_pure (i := 3) rfl (by kernel_rfl) (by kernel_rfl) rfl rfl rfl (pv_fieldAddr rfl rfl) ?_
            refine xp_light (i := 4) rfl (by kernel_rfl) (by kernel_rfl) rfl rfl rfl (lv_load (v := .agg _) rfl rfl (by exact ld_rky (hae (by omega)).2 hw (by decide) (by omega))) ?_
            refine xp_light (i := 5) rfl (by kernel_rfl) (by kernel_rfl) rfl rfl rfl (lv_load (v := .agg _) rfl rfl (by exact ld_ints m0_0 hk)) ?_
            refine xp_ndec (i := 6) rfl (by kernel_rfl) (by kernel_rfl) rfl rfl rfl (pv_neq_g (ky (gr l i)) k rfl rfl rfl hk4 hk) (fun h9_6 => ?_) (fun h9_6 => ?_)
            · skip
              refine xp_done (by kernel_rfl) ?_
              refine xthen_normal ?_
              refine xc_cond_f rfl ?_
              refine xc_skip ?_
              refine xblock_normal ?_
              refine xthen_normal ?_
              refine xc_region ?_
              refine xl_pure rfl rfl rfl (pv_move (v := .int _ _) rfl rfl) ?_
              refine xl_pure rfl rfl rfl (pv_add rfl rfl rfl (fit_i64 (by omega))) ?_
              refine xl_pure rfl rfl rfl (pv_assign (v := .int _ _) rfl rfl) ?_
              refine xl_nil ?_
              refine xthen_normal ?_
              first
                | exact ⟨(i + 1, _, (out ++ [k ++ [n]] ++ [gr l i]), _, _), ⟨rfl, rfl, rfl, slv (by simp), rfl, rfl, trivial⟩, ⟨by (try simp only); omega, by have h := (hI.ins hs hw hk hil rfl hc6_9).row hs hw hk hil (fun h => by cases h); rw [if_pos h9_6] at h; exact h, m0_0, by simpa [fr_app, fr] using hO10_6, hX⟩, by (try simp only); omega⟩
                | exact ⟨(i + 1, _, (out ++ [k ++ [n]]), _, _), ⟨rfl, rfl, rfl, slv (by simp), rfl, rfl, trivial⟩, ⟨by (try simp only); omega, by have h := (hI.ins hs hw hk hil rfl hc6_9).row hs hw hk hil (fun h => by cases h); rw [if_neg (fun h2 => h2 h9_6), List.append_nil] at h; exact h, m0_0, by simpa [fr_app, fr] using hO7_5, hX⟩, by (try simp only); omega⟩
                | exact ⟨(i + 1, _, (out ++ [gr l i]), _, _), ⟨rfl, rfl, rfl, slv (by simp), rfl, rfl, trivial⟩, ⟨by (try simp only); omega, by have h := hI.row hs hw hk hil (by first | exact fun _ => hc6_9 | exact fun h => by cases h); rw [if_pos h9_6] at h; exact h, m0_0, by simpa [fr_app, fr] using hO10_6, hX⟩, by (try simp only); omega⟩
                | exact ⟨(i + 1, _, out, _, _), ⟨rfl, rfl, rfl, slv (by simp), rfl, rfl, trivial⟩, ⟨by (try simp only); omega, by have h := hI.row hs hw hk hil (by first | exact fun _ => hc6_9 | exact fun h => by cases h); rw [if_neg (fun h2 => h2 h9_6), List.append_nil] at h; exact h, m0_0, by simpa [fr_app, fr] using ho, hX⟩, by (try simp only); omega⟩
            · skip
              refine xp_done (by kernel_rfl) ?_
              refine xthen_normal ?_
              refine xc_cond_t rfl ?_
              obtain ⟨ba, off, hae⟩ := (hx.ext hX).at
              refine xc_region ?_
              refine xl_pure rfl rfl rfl (pv_move (v := .slice _ _ _) rfl rfl) ?_
              refine xl_pure rfl rfl rfl (pv_move (v := .slice _ _ _) rfl rfl) ?_
              refine xl_pure rfl rfl rfl (pv_move (v := .int _ _) rfl rfl) ?_
              refine xl_pure rfl rfl rfl (pv_indexAddr_l rfl (sl_eq (hae (by omega)).1) rfl (by omega)) ?_
              refine xl_light rfl rfl rfl (lv_load (v := .agg _) rfl rfl (by exact ld_row' (hae (by omega)).2 hw (by omega))) ?_
              refine xl_heavy rfl rfl rfl (hv_buildSlice (cs := ints (gr l i)) rfl rfl (parts1 (ints_ten hr5)) rfl rfl) ?_
              rintro v10_5 H10_5 ⟨b10_5, rfl, hN10_5⟩
              have gb10_5 := hX.fresh hN10_5
              have nm0_0_10_5 := m0_0.apart hN10_5
              have pm10_5_ho := ho.apartN hN10_5
              have m0_0 := m0_0.ext hN10_5.ext
              have ho := ho.ext hN10_5.ext
              have hX := hX.trans hN10_5.ext
              have m10_5 := hN10_5.blk
              refine xl_heavy rfl rfl rfl (hv_append (size := 5) rfl rfl ho rfl m10_5.row (by simpa using ints_ten hr5) (ints_mem _) rfl (by decide) (by omega) (by omega) hX.size) ?_
              rintro v10_6 H10_6 ⟨hO10_6, hG10_6, -, hB10_6⟩
              have m0_0 := m0_0.offT ho hG10_6 rfl
              have hX := ho.grown hX hG10_6 (Nat.le_refl _)
              obtain ⟨a10_6, c10_6, rfl⟩ := hO10_6.val
              refine xl_pure rfl rfl rfl (pv_assign (v := .slice _ _ _) rfl rfl) ?_
              refine xl_nil ?_
              refine xblock_normal ?_
              refine xthen_normal ?_
              refine xc_region ?_
              refine xl_pure rfl rfl rfl (pv_move (v := .int _ _) rfl rfl) ?_
              refine xl_pure rfl rfl rfl (pv_add rfl rfl rfl (fit_i64 (by omega))) ?_
              refine xl_pure rfl rfl rfl (pv_assign (v := .int _ _) rfl rfl) ?_
              refine xl_nil ?_
              refine xthen_normal ?_
              first
                | exact ⟨(i + 1, _, (out ++ [k ++ [n]] ++ [gr l i]), _, _), ⟨rfl, rfl, rfl, slv (by simp), rfl, rfl, trivial⟩, ⟨by (try simp only); omega, by have h := (hI.ins hs hw hk hil rfl hc6_9).row hs hw hk hil (fun h => by cases h); rw [if_pos h9_6] at h; exact h, m0_0, by simpa [fr_app, fr] using hO10_6, hX⟩, by (try simp only); omega⟩
                | exact ⟨(i + 1, _, (out ++ [k ++ [n]]), _, _), ⟨rfl, rfl, rfl, slv (by simp), rfl, rfl, trivial⟩, ⟨by (try simp only); omega, by have h := (hI.ins hs hw hk hil rfl hc6_9).row hs hw hk hil (fun h => by cases h); rw [if_neg (fun h2 => h2 h9_6), List.append_nil] at h; exact h, m0_0, by simpa [fr_app, fr] using hO7_5, hX⟩, by (try simp only); omega⟩
                | exact ⟨(i + 1, _, (out ++ [gr l i]), _, _), ⟨rfl, rfl, rfl, slv (by simp), rfl, rfl, trivial⟩, ⟨by (try simp only); omega, by have h := hI.row hs hw hk hil (by first | exact fun _ => hc6_9 | exact fun h => by cases h); rw [if_pos h9_6] at h; exact h, m0_0, by simpa [fr_app, fr] using hO10_6, hX⟩, by (try simp only); omega⟩
                | exact ⟨(i + 1, _, out, _, _), ⟨rfl, rfl, rfl, slv (by simp), rfl, rfl, trivial⟩, ⟨by (try simp only); omega, by have h := hI.row hs hw hk hil (by first | exact fun _ => hc6_9 | exact fun h => by cases h); rw [if_neg (fun h2 => h2 h9_6), List.append_nil] at h; exact h, m0_0, by simpa [fr_app, fr] using ho, hX⟩, by (try simp only); omega⟩
        · skip
          refine xp_pure (i := 1) rfl (by kernel_rfl) (by kernel_rfl) rfl rfl rfl (pv_not rfl rfl) ?_
          refine xp_pure (i := 2) rfl (by kernel_rfl) (by kernel_rfl) rfl rfl rfl (pv_move (v := .bool _) rfl rfl) ?_
          refine xp_skip (i := 3) rfl (by kernel_rfl) (by kernel_rfl) rfl rfl rfl ?_
          refine xp_skip (i := 4) rfl (by kernel_rfl) (by kernel_rfl) rfl rfl rfl ?_
          refine xp_skip (i := 5) rfl (by kernel_rfl) (by kernel_rfl) rfl rfl rfl ?_
          refine xp_skip (i := 6) rfl (by kernel_rfl) (by kernel_rfl) rfl rfl rfl ?_
          refine xp_skip (i := 7) rfl (by kernel_rfl) (by kernel_rfl) rfl rfl rfl ?_
          refine xp_skip (i := 8) rfl (by kernel_rfl) (by kernel_rfl) rfl rfl rfl ?_
          refine xp_skip (i := 9) rfl (by kernel_rfl) (by kernel_rfl) rfl rfl rfl ?_
          refine xp_pure (i := 10) rfl (by kernel_rfl) (by kernel_rfl) rfl rfl rfl (pv_pick_f (v := .bool _) rfl rfl rfl) ?_
          refine xp_done (by kernel_rfl) ?_
          refine xthen_normal ?_
          refine xc_cond_f rfl ?_
          refine xc_skip ?_
          refine xthen_normal ?_
          refine xc_seq ?_
          obtain ⟨ba, off, hae⟩ := (hx.ext hX).at
          refine xp_start rfl (by repeat (first | with_reducible exact np_fin | with_reducible exact np_ret | with_reducible refine np_then ?_ | with_reducible refine np_block ?_)) (by kernel_rfl) ?_
          refine xp_pure (i := 0) rfl (by kernel_rfl) (by kernel_rfl) rfl rfl rfl (pv_move (v := .slice _ _ _) rfl rfl) ?_
          refine xp_pure (i := 1) rfl (by kernel_rfl) (by kernel_rfl) rfl rfl rfl (pv_move (v := .int _ _) rfl rfl) ?_
          refine xp_pure (i := 2) rfl (by kernel_rfl) (by kernel_rfl) rfl rfl rfl (pv_indexAddr_l rfl (sl_eq (hae (by omega)).1) rfl (by omega)) ?_
          refine xp_pure (i := 3) rfl (by kernel_rfl) (by kernel_rfl) rfl rfl rfl (pv_fieldAddr rfl rfl) ?_
          refine xp_light (i := 4) rfl (by kernel_rfl) (by kernel_rfl) rfl rfl rfl (lv_load (v := .agg _) rfl rfl (by exact ld_rky (hae (by omega)).2 hw (by decide) (by omega))) ?_
          refine xp_light (i := 5) rfl (by kernel_rfl) (by kernel_rfl) rfl rfl rfl (lv_load (v := .agg _) rfl rfl (by exact ld_ints m0_0 hk)) ?_
          refine xp_ndec (i := 6) rfl (by kernel_rfl) (by kernel_rfl) rfl rfl rfl (pv_neq_g (ky (gr l i)) k rfl rfl rfl hk4 hk) (fun h9_6 => ?_) (fun h9_6 => ?_)
          · skip
            refine xp_done (by kernel_rfl) ?_
            refine xthen_normal ?_
            refine xc_cond_f rfl ?_
            refine xc_skip ?_
            refine xblock_normal ?_
            refine xthen_normal ?_
            refine xc_region ?_
            refine xl_pure rfl rfl rfl (pv_move (v := .int _ _) rfl rfl) ?_
            refine xl_pure rfl rfl rfl (pv_add rfl rfl rfl (fit_i64 (by omega))) ?_
            refine xl_pure rfl rfl rfl (pv_assign (v := .int _ _) rfl rfl) ?_
            refine xl_nil ?_
            refine xthen_normal ?_
            first
              | exact ⟨(i + 1, _, (out ++ [k ++ [n]] ++ [gr l i]), _, _), ⟨rfl, rfl, rfl, slv (by simp), rfl, rfl, trivial⟩, ⟨by (try simp only); omega, by have h := (hI.ins hs hw hk hil rfl hc6_9).row hs hw hk hil (fun h => by cases h); rw [if_pos h9_6] at h; exact h, m0_0, by simpa [fr_app, fr] using hO10_6, hX⟩, by (try simp only); omega⟩
              | exact ⟨(i + 1, _, (out ++ [k ++ [n]]), _, _), ⟨rfl, rfl, rfl, slv (by simp), rfl, rfl, trivial⟩, ⟨by (try simp only); omega, by have h := (hI.ins hs hw hk hil rfl hc6_9).row hs hw hk hil (fun h => by cases h); rw [if_neg (fun h2 => h2 h9_6), List.append_nil] at h; exact h, m0_0, by simpa [fr_app, fr] using hO7_5, hX⟩, by (try simp only); omega⟩
              | exact ⟨(i + 1, _, (out ++ [gr l i]), _, _), ⟨rfl, rfl, rfl, slv (by simp), rfl, rfl, trivial⟩, ⟨by (try simp only); omega, by have h := hI.row hs hw hk hil (by first | exact fun _ => hc6_9 | exact fun h => by cases h); rw [if_pos h9_6] at h; exact h, m0_0, by simpa [fr_app, fr] using hO10_6, hX⟩, by (try simp only); omega⟩
              | exact ⟨(i + 1, _, out, _, _), ⟨rfl, rfl, rfl, slv (by simp), rfl, rfl, trivial⟩, ⟨by (try simp only); omega, by have h := hI.row hs hw hk hil (by first | exact fun _ => hc6_9 | exact fun h => by cases h); rw [if_neg (fun h2 => h2 h9_6), List.append_nil] at h; exact h, m0_0, by simpa [fr_app, fr] using ho, hX⟩, by (try simp only); omega⟩
          · skip
            refine xp_done (by kernel_rfl) ?_
            refine xthen_normal ?_
            refine xc_cond_t rfl ?_
            obtain ⟨ba, off, hae⟩ := (hx.ext hX).at
            refine xc_region ?_
            refine xl_pure rfl rfl rfl (pv_move (v := .slice _ _ _) rfl rfl) ?_
            refine xl_pure rfl rfl rfl (pv_move (v := .slice _ _ _) rfl rfl) ?_
            refine xl_pure rfl rfl rfl (pv_move (v := .int _ _) rfl rfl) ?_
            refine xl_pure rfl rfl rfl (pv_indexAddr_l rfl (sl_eq (hae (by omega)).1) rfl (by omega)) ?_
            refine xl_light rfl rfl rfl (lv_load (v := .agg _) rfl rfl (by exact ld_row' (hae (by omega)).2 hw (by omega))) ?_
            refine xl_heavy rfl rfl rfl (hv_buildSlice (cs := ints (gr l i)) rfl rfl (parts1 (ints_ten hr5)) rfl rfl) ?_
            rintro v10_5 H10_5 ⟨b10_5, rfl, hN10_5⟩
            have gb10_5 := hX.fresh hN10_5
            have nm0_0_10_5 := m0_0.apart hN10_5
            have pm10_5_ho := ho.apartN hN10_5
            have m0_0 := m0_0.ext hN10_5.ext
            have ho := ho.ext hN10_5.ext
            have hX := hX.trans hN10_5.ext
            have m10_5 := hN10_5.blk
            refine xl_heavy rfl rfl rfl (hv_append (size := 5) rfl rfl ho rfl m10_5.row (by simpa using ints_ten hr5) (ints_mem _) rfl (by decide) (by omega) (by omega) hX.size) ?_
            rintro v10_6 H10_6 ⟨hO10_6, hG10_6, -, hB10_6⟩
            have m0_0 := m0_0.offT ho hG10_6 rfl
            have hX := ho.grown hX hG10_6 (Nat.le_refl _)
            obtain ⟨a10_6, c10_6, rfl⟩ := hO10_6.val
            refine xl_pure rfl rfl rfl (pv_assign (v := .slice _ _ _) rfl rfl) ?_
            refine xl_nil ?_
            refine xblock_normal ?_
            refine xthen_normal ?_
            refine xc_region ?_
            refine xl_pure rfl rfl rfl (pv_move (v := .int _ _) rfl rfl) ?_
            refine xl_pure rfl rfl rfl (pv_add rfl rfl rfl (fit_i64 (by omega))) ?_
            refine xl_pure rfl rfl rfl (pv_assign (v := .int _ _) rfl rfl) ?_
            refine xl_nil ?_
            refine xthen_normal ?_
            first
              | exact ⟨(i + 1, _, (out ++ [k ++ [n]] ++ [gr l i]), _, _), ⟨rfl, rfl, rfl, slv (by simp), rfl, rfl, trivial⟩, ⟨by (try simp only); omega, by have h := (hI.ins hs hw hk hil rfl hc6_9).row hs hw hk hil (fun h => by cases h); rw [if_pos h9_6] at h; exact h, m0_0, by simpa [fr_app, fr] using hO10_6, hX⟩, by (try simp only); omega⟩
              | exact ⟨(i + 1, _, (out ++ [k ++ [n]]), _, _), ⟨rfl, rfl, rfl, slv (by simp), rfl, rfl, trivial⟩, ⟨by (try simp only); omega, by have h := (hI.ins hs hw hk hil rfl hc6_9).row hs hw hk hil (fun h => by cases h); rw [if_neg (fun h2 => h2 h9_6), List.append_nil] at h; exact h, m0_0, by simpa [fr_app, fr] using hO7_5, hX⟩, by (try simp only); omega⟩
              | exact ⟨(i + 1, _, (out ++ [gr l i]), _, _), ⟨rfl, rfl, rfl, slv (by simp), rfl, rfl, trivial⟩, ⟨by (try simp only); omega, by have h := hI.row hs hw hk hil (by first | exact fun _ => hc6_9 | exact fun h => by cases h); rw [if_pos h9_6] at h; exact h, m0_0, by simpa [fr_app, fr] using hO10_6, hX⟩, by (try simp only); omega⟩
              | exact ⟨(i + 1, _, out, _, _), ⟨rfl, rfl, rfl, slv (by simp), rfl, rfl, trivial⟩, ⟨by (try simp only); omega, by have h := hI.row hs hw hk hil (by first | exact fun _ => hc6_9 | exact fun h => by cases h); rw [if_neg (fun h2 => h2 h9_6), List.append_nil] at h; exact h, m0_0, by simpa [fr_app, fr] using ho, hX⟩, by (try simp only); omega⟩
      · skip
        refine xl_nil ?_
        refine xthen_normal ?_
        refine xc_cond_f rfl ?_
        refine xc_exit ?_
        refine xthen_exit ?_
        refine xthen_exit ?_
        refine xblock_same ?_
        refine xthen_normal ?_
        refine xc_seq ?_
        refine xc_seq ?_
        obtain rfl : i = l.length := by omega
        refine xc_region ?_
        refine xl_pure rfl rfl rfl (pv_move (v := .bool _) rfl rfl) ?_
        cases dn
        · skip
          refine xl_pure rfl rfl rfl (pv_not rfl rfl) ?_
          refine xl_nil ?_
          refine xthen_normal ?_
          refine xc_cond_t rfl ?_
          refine xc_region ?_
          refine xl_pure rfl rfl rfl (pv_move (v := .slice _ _ _) rfl rfl) ?_
          refine xl_light rfl rfl rfl (lv_load (v := .agg _) rfl rfl (by exact ld_ints m0_0 hk)) ?_
          refine xl_pure rfl rfl rfl (pv_move (v := .int _ _) rfl rfl) ?_
          refine xl_pure rfl rfl rfl (pv_build_pair (xs := ints k) (ys := [.int .i64 n]) rfl rfl rfl rfl rfl (by rw [ints_ten hk]; rfl) (by rw [ints_ten hk]; rfl) (by rw [ints_ten hk]; rfl)) ?_
          refine xl_heavy rfl rfl rfl (hv_buildSlice (cs := ints (k ++ [n])) rfl rfl (by rw [← ints_app]; exact parts1 (by simp [ints, hk])) rfl rfl) ?_
          rintro v12_4 H12_4 ⟨b12_4, rfl, hN12_4⟩
          have gb12_4 := hX.fresh hN12_4
          have nm0_0_12_4 := m0_0.apart hN12_4
          have pm12_4_ho := ho.apartN hN12_4
          have m0_0 := m0_0.ext hN12_4.ext
          have ho := ho.ext hN12_4.ext
          have hX := hX.trans hN12_4.ext
          have m12_4 := hN12_4.blk
          refine xl_heavy rfl rfl rfl (hv_append (size := 5) rfl rfl ho rfl m12_4.row (by simpa using ints_ten hk5) (ints_mem _) rfl (by decide) (by omega) (by omega) hX.size) ?_
          rintro v12_5 H12_5 ⟨hO12_5, hG12_5, -, hB12_5⟩
          have m0_0 := m0_0.offT ho hG12_5 rfl
          have hX := ho.grown hX hG12_5 (Nat.le_refl _)
          obtain ⟨a12_5, c12_5, rfl⟩ := hO12_5.val
          refine xl_pure rfl rfl rfl (pv_assign (v := .slice _ _ _) rfl rfl) ?_
          refine xl_nil ?_
          refine xthen_normal ?_
          refine xc_seq ?_
          refine xc_region ?_
          refine xl_pure rfl rfl rfl (pv_move (v := .slice _ _ _) rfl rfl) ?_
          refine xl_pure rfl rfl rfl (pv_assign (v := .slice _ _ _) rfl rfl) ?_
          refine xl_nil ?_
          refine xthen_normal ?_
          refine xc_ret ?_
          refine fin_ret (res1 (v := .slice _ _ _) rfl rfl) ?_
          have hdn := hI.done hs hw hk
          have hwo := hI.wide hw hk
          first
            | (rw [if_pos rfl] at hdn; exact ⟨a12_5, c12_5, slv (by rw [← hdn]; simp), by rw [← hdn]; exact own_rowsT (hwo.app fun r hr => by rw [List.mem_singleton] at hr; rw [hr]; exact hk5) (by simpa [fr_app, fr] using hO12_5), hX⟩)
            | (rw [if_neg (by decide)] at hdn; exact ⟨va, vc, slv (by rw [← hdn]), by rw [← hdn]; exact own_rowsT hwo ho, hX⟩)
        · skip
          refine xl_pure rfl rfl rfl (pv_not rfl rfl) ?_
          refine xl_nil ?_
          refine xthen_normal ?_
          refine xc_cond_f rfl ?_
          refine xc_skip ?_
          refine xthen_normal ?_
          refine xc_seq ?_
          refine xc_region ?_
          refine xl_pure rfl rfl rfl (pv_move (v := .slice _ _ _) rfl rfl) ?_
          refine xl_pure rfl rfl rfl (pv_assign (v := .slice _ _ _) rfl rfl) ?_
          refine xl_nil ?_
          refine xthen_normal ?_
          refine xc_ret ?_
          refine fin_ret (res1 (v := .slice _ _ _) rfl rfl) ?_
          have hdn := hI.done hs hw hk
          have hwo := hI.wide hw hk
          first
            | (rw [if_pos rfl] at hdn; exact ⟨a12_5, c12_5, slv (by rw [← hdn]; simp), by rw [← hdn]; exact own_rowsT (hwo.app fun r hr => by rw [List.mem_singleton] at hr; rw [hr]; exact hk5) (by simpa [fr_app, fr] using hO12_5), hX⟩)
            | (rw [if_neg (by decide)] at hdn; exact ⟨va, vc, slv (by rw [← hdn]), by rw [← hdn]; exact own_rowsT hwo ho, hX⟩)
  · skip
    refine xl_pure rfl rfl rfl (pv_assign (v := .bool _) rfl rfl) ?_
    refine xl_nil ?_
    refine xthen_normal ?_
    refine xc_seq ?_
    refine xc_seq ?_
    refine xc_region ?_
    refine xl_pure rfl rfl rfl (pv_assign (v := .int _ _) rfl rfl) ?_
    refine xl_nil ?_
    refine xthen_normal ?_
    refine xc_block ?_
    refine xc_loop (τ := Nat × Bool × List (List Int) × Option Addr × Nat) (fun t => [(0, .slice a l.length c), (2, .int .i64 n), (4, .pointer (some ⟨b0_0, 0, none⟩)), (7, .slice t.2.2.2.1 t.2.2.1.length t.2.2.2.2), (8, .bool t.2.1), (9, .int .i64 (t.1 : Nat))]) (fun t H' => (t.1 ≤ l.length) ∧ (SetI l k n t.1 t.2.1 t.2.2.1) ∧ (Blk H' b0_0 (ints k) 37) ∧ (Own H' H.size 99 5 (.slice t.2.2.2.1 t.2.2.1.length t.2.2.2.2) t.2.2.1.length (fr t.2.2.1)) ∧ (Ext H H')) (fun t H' => l.length - t.1) (0, false, [], none, 0) ?_ ?_ ?_
    · exact ⟨rfl, rfl, rfl, rfl, rfl, rfl, trivial⟩
    · skip
      exact ⟨Nat.zero_le _, .inl ⟨rfl, h2_1, Nat.zero_le _, rfl⟩, m0_0, by simpa [fr] using Own.nil _ H.size 99 5, hX⟩
    · intro σ
      clear hX m0_0
      rintro ⟨i, dn, out, va, vc⟩ Hl4 ⟨hi, hI, m0_0, ho, hX⟩
      replace hi : i ≤ l.length := hi
      replace hI : SetI l k n i dn out := hI
      replace m0_0 : Blk Hl4 b0_0 (ints k) 37 := m0_0
      replace ho : Own Hl4 H.size 99 5 (.slice va out.length vc) out.length (fr out) := ho
      replace hX : Ext H Hl4 := hX
      obtain ⟨ba, off, hae⟩ := (hx.ext hX).at
      have hol := hI.len hi
      show XC _ _ _ (upds σ [(0, .slice a l.length c), (2, .int .i64 n), (4, .pointer (some ⟨b0_0, 0, none⟩)), (7, .slice va out.length vc), (8, .bool dn), (9, .int .i64 (i : Nat))]) _
      refine xc_seq ?_
      refine xc_seq ?_
      refine xc_region ?_
      refine xl_pure rfl rfl rfl (pv_move (v := .int _ _) rfl rfl) ?_
      refine xl_pure rfl rfl rfl (pv_move (v := .slice _ _ _) rfl rfl) ?_
      refine xl_pure rfl rfl rfl (pv_len_l rfl rfl) ?_
      refine xl_dec rfl rfl rfl (pv_lss rfl rfl rfl) (fun h4_3 => ?_) (fun h4_3 => ?_)
      · skip
        refine xl_nil ?_
        refine xthen_normal ?_
        refine xc_cond_t rfl ?_
        refine xc_skip ?_
        refine xthen_normal ?_
        refine xc_seq ?_
        refine xc_block ?_
        refine xc_seq ?_
        refine xc_seq ?_
        have hil : i < l.length := by omega
        have hr5 := hw.get hil
        have hk4 := ky_len hr5 (by decide)
        refine xp_start rfl (by repeat (first | with_reducible exact np_fin | with_reducible exact np_ret | with_reducible refine np_then ?_ | with_reducible refine np_block ?_)) (by kernel_rfl) ?_
        refine xp_pure (i := 0) rfl (by kernel_rfl) (by kernel_rfl) rfl rfl rfl (pv_move (v := .bool _) rfl rfl) ?_
        cases dn
        · skip
          refine xp_pure (i := 1) rfl (by kernel_rfl) (by kernel_rfl) rfl rfl rfl (pv_not rfl rfl) ?_
          refine xp_pure (i := 2) rfl (by kernel_rfl) (by kernel_rfl) rfl rfl rfl (pv_move (v := .bool _) rfl rfl) ?_
          refine xp_light (i := 3) rfl (by kernel_rfl) (by kernel_rfl) rfl rfl rfl (lv_load (v := .agg _) rfl rfl (by exact ld_ints m0_0 hk)) ?_
          refine xp_pure (i := 4) rfl (by kernel_rfl) (by kernel_rfl) rfl rfl rfl (pv_move (v := .slice _ _ _) rfl rfl) ?_
          refine xp_pure (i := 5) rfl (by kernel_rfl) (by kernel_rfl) rfl rfl rfl (pv_move (v := .int _ _) rfl rfl) ?_
          refine xp_pure (i := 6) rfl (by kernel_rfl) (by kernel_rfl) rfl rfl rfl (pv_indexAddr_l rfl (sl_eq (hae (by omega)).1) rfl (by omega)) ?_
          refine xp_pure (i := 7) rfl (by kernel_rfl) (by kernel_rfl) rfl rfl rfl (pv_fieldAddr rfl rfl) ?_
          refine xp_light (i := 8) rfl (by kernel_rfl) (by kernel_rfl) rfl rfl rfl (lv_load (v := .agg _) rfl rfl (by exact ld_rky (hae (by omega)).2 hw (by decide) (by omega))) ?_
          refine xp_heavy (i := 9) (by kernel_rfl) ?_
          refine xph_val rfl rfl rfl rfl (hv_call (g := 80) rfl rfl (c80k k (ky (gr l i)) hk hk4) rfl) (pd (by kernel_rfl) (pd (by kernel_rfl) pn)) ?_
          rintro v6_9 H6_9 ⟨hv6_9, hE6_9⟩
          have m0_0 := m0_0.ext hE6_9
          have ho := ho.ext hE6_9
          have hX := hX.trans hE6_9
          refine ⟨okn, ?_⟩
          rcases hv6_9 with ⟨hc6_9, rfl⟩ | ⟨hc6_9, rfl⟩
          · skip
            refine xp_pure (i := 10) rfl (by kernel_rfl) (by kernel_rfl) rfl rfl rfl (pv_pick_t (v := .bool _) rfl rfl rfl) ?_
            refine xp_done (by kernel_rfl) ?_
            refine xthen_normal ?_
            refine xc_cond_t rfl ?_
            refine xc_seq ?_
            refine xc_region ?_
            refine xl_pure rfl rfl rfl (pv_move (v := .slice _ _ _) rfl rfl) ?_
            refine xl_light rfl rfl rfl (lv_load (v := .agg _) rfl rfl (by exact ld_ints m0_0 hk)) ?_
            refine xl_pure rfl rfl rfl (pv_move (v := .int _ _) rfl rfl) ?_
            refine xl_pure rfl rfl rfl (pv_build_pair (xs := ints k) (ys := [.int .i64 n]) rfl rfl rfl rfl rfl (by rw [ints_ten hk]; rfl) (by rw [ints_ten hk]; rfl) (by rw [ints_ten hk]; rfl)) ?_
            refine xl_heavy rfl rfl rfl (hv_buildSlice (cs := ints (k ++ [n])) rfl rfl (by rw [← ints_app]; exact parts1 (by simp [ints, hk])) rfl rfl) ?_
            rintro v7_4 H7_4 ⟨b7_4, rfl, hN7_4⟩
            have gb7_4 := hX.fresh hN7_4
            have nm0_0_7_4 := m0_0.apart hN7_4
            have pm7_4_ho := ho.apartN hN7_4
            have m0_0 := m0_0.ext hN7_4.ext
            have ho := ho.ext hN7_4.ext
            have hX := hX.trans hN7_4.ext
            have m7_4 := hN7_4.blk
            refine xl_heavy rfl rfl rfl (hv_append (size := 5) rfl rfl ho rfl m7_4.row (by simpa using ints_ten hk5) (ints_mem _) rfl (by decide) (by omega) (by omega) hX.size) ?_
            rintro v7_5 H7_5 ⟨hO7_5, hG7_5, -, hB7_5⟩
            have m0_0 := m0_0.offT ho hG7_5 rfl
            have hX := ho.grown hX hG7_5 (Nat.le_refl _)
            obtain ⟨a7_5, c7_5, rfl⟩ := hO7_5.val
            refine xl_pure rfl rfl rfl (pv_assign (v := .slice _ _ _) rfl rfl) ?_
            refine xl_nil ?_
            refine xthen_normal ?_
            refine xc_region ?_
            refine xl_pure rfl rfl rfl (pv_assign (v := .bool _) rfl rfl) ?_
            refine xl_nil ?_
            refine xthen_normal ?_
            refine xc_seq ?_
            obtain ⟨ba, off, hae⟩ := (hx.ext hX).at
            refine xp_start rfl (by repeat (first | with_reducible exact np_fin | with_reducible exact np_ret | with_reducible refine np_then ?_ | with_reducible refine np_block ?_)) (by kernel_rfl) ?_
            refine xp_pure (i := 0) rfl (by kernel_rfl) (by kernel_rfl) rfl rfl rfl (pv_move (v := .slice _ _ _) rfl rfl) ?_
            refine xp_pure (i := 1) rfl (by kernel_rfl) (by kernel_rfl) rfl rfl rfl (pv_move (v := .int _ _) rfl rfl) ?_
            refine xp_pure (i := 2) rfl (by kernel_rfl) (by kernel_rfl) rfl rfl rfl (pv_indexAddr_l rfl (sl_eq (hae (by omega)).1) rfl (by omega)) ?_
            refine xp_pure (i := 3) rfl (by kernel_rfl) (by kernel_rfl) rfl rfl rfl (pv_fieldAddr rfl rfl) ?_
            refine xp_light (i := 4) rfl (by kernel_rfl) (by kernel_rfl) rfl rfl rfl (lv_load (v := .agg _) rfl rfl (by exact ld_rky (hae (by omega)).2 hw (by decide) (by omega))) ?_
            refine xp_light (i := 5) rfl (by kernel_rfl) (by kernel_rfl) rfl rfl rfl (lv_load (v := .agg _) rfl rfl (by exact ld_ints m0_0 hk)) ?_
            refine xp_ndec (i := 6) rfl (by kernel_rfl) (by kernel_rfl) rfl rfl rfl (pv_neq_g (ky (gr l i)) k rfl rfl rfl hk4 hk) (fun h9_6 => ?_) (fun h9_6 => ?_)
            · skip
              refine xp_done (by kernel_rfl) ?_
              refine xthen_normal ?_
              refine xc_cond_f rfl ?_
              refine xc_skip ?_
              refine xblock_normal ?_
              refine xthen_normal ?_
              refine xc_region ?_
              refine xl_pure rfl rfl rfl (pv_move (v := .int _ _) rfl rfl) ?_
              refine xl_pure rfl rfl rfl (pv_add rfl rfl rfl (fit_i64 (by omega))) ?_
              refine xl_pure rfl rfl rfl (pv_assign (v := .int _ _) rfl rfl) ?_
              refine xl_nil ?_
              refine xthen_normal ?_
              first
                | exact ⟨(i + 1, _, (out ++ [k ++ [n]] ++ [gr l i]), _, _), ⟨rfl, rfl, rfl, slv (by simp), rfl, rfl, trivial⟩, ⟨by (try simp only); omega, by have h := (hI.ins hs hw hk hil rfl hc6_9).row hs hw hk hil (fun h => by cases h); rw [if_pos h9_6] at h; exact h, m0_0, by simpa [fr_app, fr] using hO10_6, hX⟩, by (try simp only); omega⟩
                | exact ⟨(i + 1, _, (out ++ [k ++ [n]]), _, _), ⟨rfl, rfl, rfl, slv (by simp), rfl, rfl, trivial⟩, ⟨by (try simp only); omega, by have h := (hI.ins hs hw hk hil rfl hc6_9).row hs hw hk hil (fun h => by cases h); rw [if_neg (fun h2 => h2 h9_6), List.append_nil] at h; exact h, m0_0, by simpa [fr_app, fr] using hO7_5, hX⟩, by (try simp only); omega⟩
                | exact ⟨(i + 1, _, (out ++ [gr l i]), _, _), ⟨rfl, rfl, rfl, slv (by simp), rfl, rfl, trivial⟩, ⟨by (try simp only); omega, by have h := hI.row hs hw hk hil (by first | exact fun _ => hc6_9 | exact fun h => by cases h); rw [if_pos h9_6] at h; exact h, m0_0, by simpa [fr_app, fr] using hO10_6, hX⟩, by (try simp only); omega⟩
                | exact ⟨(i + 1, _, out, _, _), ⟨rfl, rfl, rfl, slv (by simp), rfl, rfl, trivial⟩, ⟨by (try simp only); omega, by have h := hI.row hs hw hk hil (by first | exact fun _ => hc6_9 | exact fun h => by cases h); rw [if_neg (fun h2 => h2 h9_6), List.append_nil] at h; exact h, m0_0, by simpa [fr_app, fr] using ho, hX⟩, by (try simp only); omega⟩
            · skip
              refine xp_done (by kernel_rfl) ?_
              refine xthen_normal ?_
              refine xc_cond_t rfl ?_
              obtain ⟨ba, off, hae⟩ := (hx.ext hX).at
              refine xc_region ?_
              refine xl_pure rfl rfl rfl (pv_move (v := .slice _ _ _) rfl rfl) ?_
              refine xl_pure rfl rfl rfl (pv_move (v := .slice _ _ _) rfl rfl) ?_
              refine xl_pure rfl rfl rfl (pv_move (v := .int _ _) rfl rfl) ?_
              refine xl_pure rfl rfl rfl (pv_indexAddr_l rfl (sl_eq (hae (by omega)).1) rfl (by omega)) ?_
              refine xl_light rfl rfl rfl (lv_load (v := .agg _) rfl rfl (by exact ld_row' (hae (by omega)).2 hw (by omega))) ?_
              refine xl_heavy rfl rfl rfl (hv_buildSlice (cs := ints (gr l i)) rfl rfl (parts1 (ints_ten hr5)) rfl rfl) ?_
              rintro v10_5 H10_5 ⟨b10_5, rfl, hN10_5⟩
              have gb10_5 := hX.fresh hN10_5
              have nm0_0_10_5 := m0_0.apart hN10_5
              have pm10_5_hO7_5 := hO7_5.apartN hN10_5
              have m0_0 := m0_0.ext hN10_5.ext
              have hO7_5 := hO7_5.ext hN10_5.ext
              have hX := hX.trans hN10_5.ext
              have m10_5 := hN10_5.blk
              refine xl_heavy rfl rfl rfl (hv_append (size := 5) rfl rfl hO7_5 rfl m10_5.row (by simpa using ints_ten hr5) (ints_mem _) rfl (by decide) (by omega) (by omega) hX.size) ?_
              rintro v10_6 H10_6 ⟨hO10_6, hG10_6, -, hB10_6⟩
              have m0_0 := m0_0.offT hO7_5 hG10_6 rfl
              have hX := hO7_5.grown hX hG10_6 (Nat.le_refl _)
              obtain ⟨a10_6, c10_6, rfl⟩ := hO10_6.val
              refine xl_pure rfl rfl rfl (pv_assign (v := .slice _ _ _) rfl rfl) ?_
              refine xl_nil ?_
              refine xblock_normal ?_
              refine xthen_normal ?_
              refine xc_region ?_
              refine xl_pure rfl rfl rfl (pv_move (v := .int _ _) rfl rfl) ?_
              refine xl_pure rfl rfl rfl (pv_add rfl rfl rfl (fit_i64 (by omega))) ?_
              refine xl_pure rfl rfl rfl (pv_assign (v := .int _ _) rfl rfl) ?_
              refine xl_nil ?_
              refine xthen_normal ?_
              first
                | exact ⟨(i + 1, _, (out ++ [k ++ [n]] ++ [gr l i]), _, _), ⟨rfl, rfl, rfl, slv (by simp), rfl, rfl, trivial⟩, ⟨by (try simp only); omega, by have h := (hI.ins hs hw hk hil rfl hc6_9).row hs hw hk hil (fun h => by cases h); rw [if_pos h9_6] at h; exact h, m0_0, by simpa [fr_app, fr] using hO10_6, hX⟩, by (try simp only); omega⟩
                | exact ⟨(i + 1, _, (out ++ [k ++ [n]]), _, _), ⟨rfl, rfl, rfl, slv (by simp), rfl, rfl, trivial⟩, ⟨by (try simp only); omega, by have h := (hI.ins hs hw hk hil rfl hc6_9).row hs hw hk hil (fun h => by cases h); rw [if_neg (fun h2 => h2 h9_6), List.append_nil] at h; exact h, m0_0, by simpa [fr_app, fr] using hO7_5, hX⟩, by (try simp only); omega⟩
                | exact ⟨(i + 1, _, (out ++ [gr l i]), _, _), ⟨rfl, rfl, rfl, slv (by simp), rfl, rfl, trivial⟩, ⟨by (try simp only); omega, by have h := hI.row hs hw hk hil (by first | exact fun _ => hc6_9 | exact fun h => by cases h); rw [if_pos h9_6] at h; exact h, m0_0, by simpa [fr_app, fr] using hO10_6, hX⟩, by (try simp only); omega⟩
                | exact ⟨(i + 1, _, out, _, _), ⟨rfl, rfl, rfl, slv (by simp), rfl, rfl, trivial⟩, ⟨by (try simp only); omega, by have h := hI.row hs hw hk hil (by first | exact fun _ => hc6_9 | exact fun h => by cases h); rw [if_neg (fun h2 => h2 h9_6), List.append_nil] at h; exact h, m0_0, by simpa [fr_app, fr] using ho, hX⟩, by (try simp only); omega⟩
          · skip
            refine xp_pure (i := 10) rfl (by kernel_rfl) (by kernel_rfl) rfl rfl rfl (pv_pick_t (v := .bool _) rfl rfl rfl) ?_
            refine xp_done (by kernel_rfl) ?_
            refine xthen_normal ?_
            refine xc_cond_f rfl ?_
            refine xc_skip ?_
            refine xthen_normal ?_
            refine xc_seq ?_
            obtain ⟨ba, off, hae⟩ := (hx.ext hX).at
            refine xp_start rfl (by repeat (first | with_reducible exact np_fin | with_reducible exact np_ret | with_reducible refine np_then ?_ | with_reducible refine np_block ?_)) (by kernel_rfl) ?_
            refine xp_pure (i := 0) rfl (by kernel_rfl) (by kernel_rfl) rfl rfl rfl (pv_move (v := .slice _ _ _) rfl rfl) ?_
            refine xp_pure (i := 1) rfl (by kernel_rfl) (by kernel_rfl) rfl rfl rfl (pv_move (v := .int _ _) rfl rfl) ?_
            refine xp_pure (i := 2) rfl (by kernel_rfl) (by kernel_rfl) rfl rfl rfl (pv_indexAddr_l rfl (sl_eq (hae (by omega)).1) rfl (by omega)) ?_
            refine xp_pure (i := 3) rfl (by kernel_rfl) (by kernel_rfl) rfl rfl rfl (pv_fieldAddr rfl rfl) ?_
            refine xp_light (i := 4) rfl (by kernel_rfl) (by kernel_rfl) rfl rfl rfl (lv_load (v := .agg _) rfl rfl (by exact ld_rky (hae (by omega)).2 hw (by decide) (by omega))) ?_
            refine xp_light (i := 5) rfl (by kernel_rfl) (by kernel_rfl) rfl rfl rfl (lv_load (v := .agg _) rfl rfl (by exact ld_ints m0_0 hk)) ?_
            refine xp_ndec (i := 6) rfl (by kernel_rfl) (by kernel_rfl) rfl rfl rfl (pv_neq_g (ky (gr l i)) k rfl rfl rfl hk4 hk) (fun h9_6 => ?_) (fun h9_6 => ?_)
            · skip
              refine xp_done (by kernel_rfl) ?_
              refine xthen_normal ?_
              refine xc_cond_f rfl ?_
              refine xc_skip ?_
              refine xblock_normal ?_
              refine xthen_normal ?_
              refine xc_region ?_
              refine xl_pure rfl rfl rfl (pv_move (v := .int _ _) rfl rfl) ?_
              refine xl_pure rfl rfl rfl (pv_add rfl rfl rfl (fit_i64 (by omega))) ?_
              refine xl_pure rfl rfl rfl (pv_assign (v := .int _ _) rfl rfl) ?_
              refine xl_nil ?_
              refine xthen_normal ?_
              first
                | exact ⟨(i + 1, _, (out ++ [k ++ [n]] ++ [gr l i]), _, _), ⟨rfl, rfl, rfl, slv (by simp), rfl, rfl, trivial⟩, ⟨by (try simp only); omega, by have h := (hI.ins hs hw hk hil rfl hc6_9).row hs hw hk hil (fun h => by cases h); rw [if_pos h9_6] at h; exact h, m0_0, by simpa [fr_app, fr] using hO10_6, hX⟩, by (try simp only); omega⟩
                | exact ⟨(i + 1, _, (out ++ [k ++ [n]]), _, _), ⟨rfl, rfl, rfl, slv (by simp), rfl, rfl, trivial⟩, ⟨by (try simp only); omega, by have h := (hI.ins hs hw hk hil rfl hc6_9).row hs hw hk hil (fun h => by cases h); rw [if_neg (fun h2 => h2 h9_6), List.append_nil] at h; exact h, m0_0, by simpa [fr_app, fr] using hO7_5, hX⟩, by (try simp only); omega⟩
                | exact ⟨(i + 1, _, (out ++ [gr l i]), _, _), ⟨rfl, rfl, rfl, slv (by simp), rfl, rfl, trivial⟩, ⟨by (try simp only); omega, by have h := hI.row hs hw hk hil (by first | exact fun _ => hc6_9 | exact fun h => by cases h); rw [if_pos h9_6] at h; exact h, m0_0, by simpa [fr_app, fr] using hO10_6, hX⟩, by (try simp only); omega⟩
                | exact ⟨(i + 1, _, out, _, _), ⟨rfl, rfl, rfl, slv (by simp), rfl, rfl, trivial⟩, ⟨by (try simp only); omega, by have h := hI.row hs hw hk hil (by first | exact fun _ => hc6_9 | exact fun h => by cases h); rw [if_neg (fun h2 => h2 h9_6), List.append_nil] at h; exact h, m0_0, by simpa [fr_app, fr] using ho, hX⟩, by (try simp only); omega⟩
            · skip
              refine xp_done (by kernel_rfl) ?_
              refine xthen_normal ?_
              refine xc_cond_t rfl ?_
              obtain ⟨ba, off, hae⟩ := (hx.ext hX).at
              refine xc_region ?_
              refine xl_pure rfl rfl rfl (pv_move (v := .slice _ _ _) rfl rfl) ?_
              refine xl_pure rfl rfl rfl (pv_move (v := .slice _ _ _) rfl rfl) ?_
              refine xl_pure rfl rfl rfl (pv_move (v := .int _ _) rfl rfl) ?_
              refine xl_pure rfl rfl rfl (pv_indexAddr_l rfl (sl_eq (hae (by omega)).1) rfl (by omega)) ?_
              refine xl_light rfl rfl rfl (lv_load (v := .agg _) rfl rfl (by exact ld_row' (hae (by omega)).2 hw (by omega))) ?_
              refine xl_heavy rfl rfl rfl (hv_buildSlice (cs := ints (gr l i)) rfl rfl (parts1 (ints_ten hr5)) rfl rfl) ?_
              rintro v10_5 H10_5 ⟨b10_5, rfl, hN10_5⟩
              have gb10_5 := hX.fresh hN10_5
              have nm0_0_10_5 := m0_0.apart hN10_5
              have pm10_5_ho := ho.apartN hN10_5
              have m0_0 := m0_0.ext hN10_5.ext
              have ho := ho.ext hN10_5.ext
              have hX := hX.trans hN10_5.ext
              have m10_5 := hN10_5.blk
              refine xl_heavy rfl rfl rfl (hv_append (size := 5) rfl rfl ho rfl m10_5.row (by simpa using ints_ten hr5) (ints_mem _) rfl (by decide) (by omega) (by omega) hX.size) ?_
              rintro v10_6 H10_6 ⟨hO10_6, hG10_6, -, hB10_6⟩
              have m0_0 := m0_0.offT ho hG10_6 rfl
              have hX := ho.grown hX hG10_6 (Nat.le_refl _)
              obtain ⟨a10_6, c10_6, rfl⟩ := hO10_6.val
              refine xl_pure rfl rfl rfl (pv_assign (v := .slice _ _ _) rfl rfl) ?_
              refine xl_nil ?_
              refine xblock_normal ?_
              refine xthen_normal ?_
              refine xc_region ?_
              refine xl_pure rfl rfl rfl (pv_move (v := .int _ _) rfl rfl) ?_
              refine xl_pure rfl rfl rfl (pv_add rfl rfl rfl (fit_i64 (by omega))) ?_
              refine xl_pure rfl rfl rfl (pv_assign (v := .int _ _) rfl rfl) ?_
              refine xl_nil ?_
              refine xthen_normal ?_
              first
                | exact ⟨(i + 1, _, (out ++ [k ++ [n]] ++ [gr l i]), _, _), ⟨rfl, rfl, rfl, slv (by simp), rfl, rfl, trivial⟩, ⟨by (try simp only); omega, by have h := (hI.ins hs hw hk hil rfl hc6_9).row hs hw hk hil (fun h => by cases h); rw [if_pos h9_6] at h; exact h, m0_0, by simpa [fr_app, fr] using hO10_6, hX⟩, by (try simp only); omega⟩
                | exact ⟨(i + 1, _, (out ++ [k ++ [n]]), _, _), ⟨rfl, rfl, rfl, slv (by simp), rfl, rfl, trivial⟩, ⟨by (try simp only); omega, by have h := (hI.ins hs hw hk hil rfl hc6_9).row hs hw hk hil (fun h => by cases h); rw [if_neg (fun h2 => h2 h9_6), List.append_nil] at h; exact h, m0_0, by simpa [fr_app, fr] using hO7_5, hX⟩, by (try simp only); omega⟩
                | exact ⟨(i + 1, _, (out ++ [gr l i]), _, _), ⟨rfl, rfl, rfl, slv (by simp), rfl, rfl, trivial⟩, ⟨by (try simp only); omega, by have h := hI.row hs hw hk hil (by first | exact fun _ => hc6_9 | exact fun h => by cases h); rw [if_pos h9_6] at h; exact h, m0_0, by simpa [fr_app, fr] using hO10_6, hX⟩, by (try simp only); omega⟩
                | exact ⟨(i + 1, _, out, _, _), ⟨rfl, rfl, rfl, slv (by simp), rfl, rfl, trivial⟩, ⟨by (try simp only); omega, by have h := hI.row hs hw hk hil (by first | exact fun _ => hc6_9 | exact fun h => by cases h); rw [if_neg (fun h2 => h2 h9_6), List.append_nil] at h; exact h, m0_0, by simpa [fr_app, fr] using ho, hX⟩, by (try simp only); omega⟩
        · skip
          refine xp_pure (i := 1) rfl (by kernel_rfl) (by kernel_rfl) rfl rfl rfl (pv_not rfl rfl) ?_
          refine xp_pure (i := 2) rfl (by kernel_rfl) (by kernel_rfl) rfl rfl rfl (pv_move (v := .bool _) rfl rfl) ?_
          refine xp_skip (i := 3) rfl (by kernel_rfl) (by kernel_rfl) rfl rfl rfl ?_
          refine xp_skip (i := 4) rfl (by kernel_rfl) (by kernel_rfl) rfl rfl rfl ?_
          refine xp_skip (i := 5) rfl (by kernel_rfl) (by kernel_rfl) rfl rfl rfl ?_
          refine xp_skip (i := 6) rfl (by kernel_rfl) (by kernel_rfl) rfl rfl rfl ?_
          refine xp_skip (i := 7) rfl (by kernel_rfl) (by kernel_rfl) rfl rfl rfl ?_
          refine xp_skip (i := 8) rfl (by kernel_rfl) (by kernel_rfl) rfl rfl rfl ?_
          refine xp_skip (i := 9) rfl (by kernel_rfl) (by kernel_rfl) rfl rfl rfl ?_
          refine xp_pure (i := 10) rfl (by kernel_rfl) (by kernel_rfl) rfl rfl rfl (pv_pick_f (v := .bool _) rfl rfl rfl) ?_
          refine xp_done (by kernel_rfl) ?_
          refine xthen_normal ?_
          refine xc_cond_f rfl ?_
          refine xc_skip ?_
          refine xthen_normal ?_
          refine xc_seq ?_
          obtain ⟨ba, off, hae⟩ := (hx.ext hX).at
          refine xp_start rfl (by repeat (first | with_reducible exact np_fin | with_reducible exact np_ret | with_reducible refine np_then ?_ | with_reducible refine np_block ?_)) (by kernel_rfl) ?_
          refine xp_pure (i := 0) rfl (by kernel_rfl) (by kernel_rfl) rfl rfl rfl (pv_move (v := .slice _ _ _) rfl rfl) ?_
          refine xp_pure (i := 1) rfl (by kernel_rfl) (by kernel_rfl) rfl rfl rfl (pv_move (v := .int _ _) rfl rfl) ?_
          refine xp_pure (i := 2) rfl (by kernel_rfl) (by kernel_rfl) rfl rfl rfl (pv_indexAddr_l rfl (sl_eq (hae (by omega)).1) rfl (by omega)) ?_
          refine xp_pure (i := 3) rfl (by kernel_rfl) (by kernel_rfl) rfl rfl rfl (pv_fieldAddr rfl rfl) ?_
          refine xp_light (i := 4) rfl (by kernel_rfl) (by kernel_rfl) rfl rfl rfl (lv_load (v := .agg _) rfl rfl (by exact ld_rky (hae (by omega)).2 hw (by decide) (by omega))) ?_
          refine xp_light (i := 5) rfl (by kernel_rfl) (by kernel_rfl) rfl rfl rfl (lv_load (v := .agg _) rfl rfl (by exact ld_ints m0_0 hk)) ?_
          refine xp_ndec (i := 6) rfl (by kernel_rfl) (by kernel_rfl) rfl rfl rfl (pv_neq_g (ky (gr l i)) k rfl rfl rfl hk4 hk) (fun h9_6 => ?_) (fun h9_6 => ?_)
          · skip
            refine xp_done (by kernel_rfl) ?_
            refine xthen_normal ?_
            refine xc_cond_f rfl ?_
            refine xc_skip ?_
            refine xblock_normal ?_
            refine xthen_normal ?_
            refine xc_region ?_
            refine xl_pure rfl rfl rfl (pv_move (v := .int _ _) rfl rfl) ?_
            refine xl_pure rfl rfl rfl (pv_add rfl rfl rfl (fit_i64 (by omega))) ?_
            refine xl_pure rfl rfl rfl (pv_assign (v := .int _ _) rfl rfl) ?_
            refine xl_nil ?_
            refine xthen_normal ?_
            first
              | exact ⟨(i + 1, _, (out ++ [k ++ [n]] ++ [gr l i]), _, _), ⟨rfl, rfl, rfl, slv (by simp), rfl, rfl, trivial⟩, ⟨by (try simp only); omega, by have h := (hI.ins hs hw hk hil rfl hc6_9).row hs hw hk hil (fun h => by cases h); rw [if_pos h9_6] at h; exact h, m0_0, by simpa [fr_app, fr] using hO10_6, hX⟩, by (try simp only); omega⟩
              | exact ⟨(i + 1, _, (out ++ [k ++ [n]]), _, _), ⟨rfl, rfl, rfl, slv (by simp), rfl, rfl, trivial⟩, ⟨by (try simp only); omega, by have h := (hI.ins hs hw hk hil rfl hc6_9).row hs hw hk hil (fun h => by cases h); rw [if_neg (fun h2 => h2 h9_6), List.append_nil] at h; exact h, m0_0, by simpa [fr_app, fr] using hO7_5, hX⟩, by (try simp only); omega⟩
              | exact ⟨(i + 1, _, (out ++ [gr l i]), _, _), ⟨rfl, rfl, rfl, slv (by simp), rfl, rfl, trivial⟩, ⟨by (try simp only); omega, by have h := hI.row hs hw hk hil (by first | exact fun _ => hc6_9 | exact fun h => by cases h); rw [if_pos h9_6] at h; exact h, m0_0, by simpa [fr_app, fr] using hO10_6, hX⟩, by (try simp only); omega⟩
              | exact ⟨(i + 1, _, out, _, _), ⟨rfl, rfl, rfl, slv (by simp), rfl, rfl, trivial⟩, ⟨by (try simp only); omega, by have h := hI.row hs hw hk hil (by first | exact fun _ => hc6_9 | exact fun h => by cases h); rw [if_neg (fun h2 => h2 h9_6), List.append_nil] at h; exact h, m0_0, by simpa [fr_app, fr] using ho, hX⟩, by (try simp only); omega⟩
          · skip
            refine xp_done (by kernel_rfl) ?_
            refine xthen_normal ?_
            refine xc_cond_t rfl ?_
            obtain ⟨ba, off, hae⟩ := (hx.ext hX).at
            refine xc_region ?_
            refine xl_pure rfl rfl rfl (pv_move (v := .slice _ _ _) rfl rfl) ?_
            refine xl_pure rfl rfl rfl (pv_move (v := .slice _ _ _) rfl rfl) ?_
            refine xl_pure rfl rfl rfl (pv_move (v := .int _ _) rfl rfl) ?_
            refine xl_pure rfl rfl rfl (pv_indexAddr_l rfl (sl_eq (hae (by omega)).1) rfl (by omega)) ?_
            refine xl_light rfl rfl rfl (lv_load (v := .agg _) rfl rfl (by exact ld_row' (hae (by omega)).2 hw (by omega))) ?_
            refine xl_heavy rfl rfl rfl (hv_buildSlice (cs := ints (gr l i)) rfl rfl (parts1 (ints_ten hr5)) rfl rfl) ?_
            rintro v10_5 H10_5 ⟨b10_5, rfl, hN10_5⟩
            have gb10_5 := hX.fresh hN10_5
            have nm0_0_10_5 := m0_0.apart hN10_5
            have pm10_5_ho := ho.apartN hN10_5
            have m0_0 := m0_0.ext hN10_5.ext
            have ho := ho.ext hN10_5.ext
            have hX := hX.trans hN10_5.ext
            have m10_5 := hN10_5.blk
            refine xl_heavy rfl rfl rfl (hv_append (size := 5) rfl rfl ho rfl m10_5.row (by simpa using ints_ten hr5) (ints_mem _) rfl (by decide) (by omega) (by omega) hX.size) ?_
            rintro v10_6 H10_6 ⟨hO10_6, hG10_6, -, hB10_6⟩
            have m0_0 := m0_0.offT ho hG10_6 rfl
            have hX := ho.grown hX hG10_6 (Nat.le_refl _)
            obtain ⟨a10_6, c10_6, rfl⟩ := hO10_6.val
            refine xl_pure rfl rfl rfl (pv_assign (v := .slice _ _ _) rfl rfl) ?_
            refine xl_nil ?_
            refine xblock_normal ?_
            refine xthen_normal ?_
            refine xc_region ?_
            refine xl_pure rfl rfl rfl (pv_move (v := .int _ _) rfl rfl) ?_
            refine xl_pure rfl rfl rfl (pv_add rfl rfl rfl (fit_i64 (by omega))) ?_
            refine xl_pure rfl rfl rfl (pv_assign (v := .int _ _) rfl rfl) ?_
            refine xl_nil ?_
            refine xthen_normal ?_
            first
              | exact ⟨(i + 1, _, (out ++ [k ++ [n]] ++ [gr l i]), _, _), ⟨rfl, rfl, rfl, slv (by simp), rfl, rfl, trivial⟩, ⟨by (try simp only); omega, by have h := (hI.ins hs hw hk hil rfl hc6_9).row hs hw hk hil (fun h => by cases h); rw [if_pos h9_6] at h; exact h, m0_0, by simpa [fr_app, fr] using hO10_6, hX⟩, by (try simp only); omega⟩
              | exact ⟨(i + 1, _, (out ++ [k ++ [n]]), _, _), ⟨rfl, rfl, rfl, slv (by simp), rfl, rfl, trivial⟩, ⟨by (try simp only); omega, by have h := (hI.ins hs hw hk hil rfl hc6_9).row hs hw hk hil (fun h => by cases h); rw [if_neg (fun h2 => h2 h9_6), List.append_nil] at h; exact h, m0_0, by simpa [fr_app, fr] using hO7_5, hX⟩, by (try simp only); omega⟩
              | exact ⟨(i + 1, _, (out ++ [gr l i]), _, _), ⟨rfl, rfl, rfl, slv (by simp), rfl, rfl, trivial⟩, ⟨by (try simp only); omega, by have h := hI.row hs hw hk hil (by first | exact fun _ => hc6_9 | exact fun h => by cases h); rw [if_pos h9_6] at h; exact h, m0_0, by simpa [fr_app, fr] using hO10_6, hX⟩, by (try simp only); omega⟩
              | exact ⟨(i + 1, _, out, _, _), ⟨rfl, rfl, rfl, slv (by simp), rfl, rfl, trivial⟩, ⟨by (try simp only); omega, by have h := hI.row hs hw hk hil (by first | exact fun _ => hc6_9 | exact fun h => by cases h); rw [if_neg (fun h2 => h2 h9_6), List.append_nil] at h; exact h, m0_0, by simpa [fr_app, fr] using ho, hX⟩, by (try simp only); omega⟩
      · skip
        refine xl_nil ?_
        refine xthen_normal ?_
        refine xc_cond_f rfl ?_
        refine xc_exit ?_
        refine xthen_exit ?_
        refine xthen_exit ?_
        refine xblock_same ?_
        refine xthen_normal ?_
        refine xc_seq ?_
        refine xc_seq ?_
        obtain rfl : i = l.length := by omega
        refine xc_region ?_
        refine xl_pure rfl rfl rfl (pv_move (v := .bool _) rfl rfl) ?_
        cases dn
        · skip
          refine xl_pure rfl rfl rfl (pv_not rfl rfl) ?_
          refine xl_nil ?_
          refine xthen_normal ?_
          refine xc_cond_t rfl ?_
          refine xc_region ?_
          refine xl_pure rfl rfl rfl (pv_move (v := .slice _ _ _) rfl rfl) ?_
          refine xl_light rfl rfl rfl (lv_load (v := .agg _) rfl rfl (by exact ld_ints m0_0 hk)) ?_
          refine xl_pure rfl rfl rfl (pv_move (v := .int _ _) rfl rfl) ?_
          refine xl_pure rfl rfl rfl (pv_build_pair (xs := ints k) (ys := [.int .i64 n]) rfl rfl rfl rfl rfl (by rw [ints_ten hk]; rfl) (by rw [ints_ten hk]; rfl) (by rw [ints_ten hk]; rfl)) ?_
          refine xl_heavy rfl rfl rfl (hv_buildSlice (cs := ints (k ++ [n])) rfl rfl (by rw [← ints_app]; exact parts1 (by simp [ints, hk])) rfl rfl) ?_
          rintro v12_4 H12_4 ⟨b12_4, rfl, hN12_4⟩
          have gb12_4 := hX.fresh hN12_4
          have nm0_0_12_4 := m0_0.apart hN12_4
          have pm12_4_ho := ho.apartN hN12_4
          have m0_0 := m0_0.ext hN12_4.ext
          have ho := ho.ext hN12_4.ext
          have hX := hX.trans hN12_4.ext
          have m12_4 := hN12_4.blk
          refine xl_heavy rfl rfl rfl (hv_append (size := 5) rfl rfl ho rfl m12_4.row (by simpa using ints_ten hk5) (ints_mem _) rfl (by decide) (by omega) (by omega) hX.size) ?_
          rintro v12_5 H12_5 ⟨hO12_5, hG12_5, -, hB12_5⟩
          have m0_0 := m0_0.offT ho hG12_5 rfl
          have hX := ho.grown hX hG12_5 (Nat.le_refl _)
          obtain ⟨a12_5, c12_5, rfl⟩ := hO12_5.val
          refine xl_pure rfl rfl rfl (pv_assign (v := .slice _ _ _) rfl rfl) ?_
          refine xl_nil ?_
          refine xthen_normal ?_
          refine xc_seq ?_
          refine xc_region ?_
          refine xl_pure rfl rfl rfl (pv_move (v := .slice _ _ _) rfl rfl) ?_
          refine xl_pure rfl rfl rfl (pv_assign (v := .slice _ _ _) rfl rfl) ?_
          refine xl_nil ?_
          refine xthen_normal ?_
          refine xc_ret ?_
          refine fin_ret (res1 (v := .slice _ _ _) rfl rfl) ?_
          have hdn := hI.done hs hw hk
          have hwo := hI.wide hw hk
          first
            | (rw [if_pos rfl] at hdn; exact ⟨a12_5, c12_5, slv (by rw [← hdn]; simp), by rw [← hdn]; exact own_rowsT (hwo.app fun r hr => by rw [List.mem_singleton] at hr; rw [hr]; exact hk5) (by simpa [fr_app, fr] using hO12_5), hX⟩)
            | (rw [if_neg (by decide)] at hdn; exact ⟨va, vc, slv (by rw [← hdn]), by rw [← hdn]; exact own_rowsT hwo ho, hX⟩)
        · skip
          refine xl_pure rfl rfl rfl (pv_not rfl rfl) ?_
          refine xl_nil ?_
          refine xthen_normal ?_
          refine xc_cond_f rfl ?_
          refine xc_skip ?_
          refine xthen_normal ?_
          refine xc_seq ?_
          refine xc_region ?_
          refine xl_pure rfl rfl rfl (pv_move (v := .slice _ _ _) rfl rfl) ?_
          refine xl_pure rfl rfl rfl (pv_assign (v := .slice _ _ _) rfl rfl) ?_
          refine xl_nil ?_
          refine xthen_normal ?_
          refine xc_ret ?_
          refine fin_ret (res1 (v := .slice _ _ _) rfl rfl) ?_
          have hdn := hI.done hs hw hk
          have hwo := hI.wide hw hk
          first
            | (rw [if_pos rfl] at hdn; exact ⟨a12_5, c12_5, slv (by rw [← hdn]; simp), by rw [← hdn]; exact own_rowsT (hwo.app fun r hr => by rw [List.mem_singleton] at hr; rw [hr]; exact hk5) (by simpa [fr_app, fr] using hO12_5), hX⟩)
            | (rw [if_neg (by decide)] at hdn; exact ⟨va, vc, slv (by rw [← hdn]), by rw [← hdn]; exact own_rowsT hwo ho, hX⟩)

theorem c104 {O : Outer} {H : Heap} {a : Option Addr} {c : Nat} {l : List (List Int)} (hx : RowsT H 99 5 a l) (hg : GooL l) (hl : l.length < 1000000) (z : Int) :
    FnC Try.prog 104 #[.slice a l.length c, .int .i64 z] O H (fun v H' => v = .int .i64 (totB l z) ∧ H = H') := by
  refine fn_enter (A := [.slice a l.length c, .int .i64 z]) Try.func104 rfl rfl ?_
  have hX := Ext.refl H
  refine xc_seq ?_
  refine xc_region ?_
  refine xl_pure rfl rfl rfl (pv_assign (v := .int _ _) rfl rfl) ?_
  refine xl_nil ?_
  refine xthen_normal ?_
  refine xc_seq ?_
  refine xc_region ?_
  refine xl_pure rfl rfl rfl (pv_assign (v := .int _ _) rfl rfl) ?_
  refine xl_nil ?_
  refine xthen_normal ?_
  refine xc_seq ?_
  refine xc_seq ?_
  refine xc_region ?_
  refine xl_pure rfl rfl rfl (pv_assign (v := .int _ _) rfl rfl) ?_
  refine xl_nil ?_
  refine xthen_normal ?_
  refine xc_block ?_
  refine xc_loop (τ := Nat) (fun t => [(0, .slice a l.length c), (1, .int .i64 z), (5, .int .i64 (totB (l.take t) z)), (6, .int .i64 (t : Nat))]) (fun t H' => (t ≤ l.length) ∧ (H = H') ∧ (Ext H H')) (fun t H' => l.length - t) 0 ?_ ?_ ?_
  · exact ⟨rfl, rfl, rfl, rfl, trivial⟩
  · skip
    exact ⟨Nat.zero_le _, rfl, hX⟩
  · intro σ
    clear hX
    rintro i Hl3 ⟨hi, heq, hX⟩
    replace hi : i ≤ l.length := hi
    replace heq : H = Hl3 := heq
    replace hX : Ext H Hl3 := hX
    subst heq
    show XC _ _ _ (upds σ [(0, .slice a l.length c), (1, .int .i64 z), (5, .int .i64 (totB (l.take i) z)), (6, .int .i64 (i : Nat))]) _
    refine xc_seq ?_
    refine xc_seq ?_
    refine xc_region ?_
    refine xl_pure rfl rfl rfl (pv_move (v := .int _ _) rfl rfl) ?_
    refine xl_pure rfl rfl rfl (pv_move (v := .slice _ _ _) rfl rfl) ?_
    refine xl_pure rfl rfl rfl (pv_len_l rfl rfl) ?_
    refine xl_dec rfl rfl rfl (pv_lss rfl rfl rfl) (fun h3_3 => ?_) (fun h3_3 => ?_)
    · skip
      refine xl_nil ?_
      refine xthen_normal ?_
      refine xc_cond_t rfl ?_
      refine xc_skip ?_
      refine xthen_normal ?_
      refine xc_seq ?_
      refine xc_block ?_
      refine xc_seq ?_
      obtain ⟨ba, off, hae⟩ := hx.at
      have tot1 : totB (l.take (i + 1)) z = totB (l.take i) z + (if (gr l (i : Int).toNat).getD 3 0 = z then (gr l (i : Int).toNat).getD 4 0 else 0) := totB_take (l := l) (i := i) (t := z) (by omega)
      have tp1 := tot_part hg (i := i) (by omega) z
      have tp2 := tot_part hg (i := i + 1) (by omega) z
      have tmx := hg.max z
      refine xc_region ?_
      refine xl_pure rfl rfl rfl (pv_move (v := .slice _ _ _) rfl rfl) ?_
      refine xl_pure rfl rfl rfl (pv_move (v := .int _ _) rfl rfl) ?_
      refine xl_pure rfl rfl rfl (pv_indexAddr_l rfl (sl_eq (hae (by omega)).1) rfl (by omega)) ?_
      refine xl_pure rfl rfl rfl (pv_fieldAddr rfl rfl) ?_
      refine xl_pure rfl rfl rfl (pv_fieldAddr rfl rfl) ?_
      refine xl_light rfl rfl rfl (lv_load (v := .int _ _) rfl rfl (by exact ld_num (j := 3) (hae (by omega)).2 hx.wide (by omega) (by decide))) ?_
      refine xl_pure rfl rfl rfl (pv_move (v := .int _ _) rfl rfl) ?_
      refine xl_dec rfl rfl rfl (pv_eql rfl rfl rfl) (fun h5_7 => ?_) (fun h5_7 => ?_)
      · skip
        refine xl_nil ?_
        refine xthen_normal ?_
        refine xc_cond_t rfl ?_
        rw [if_pos h5_7] at tot1
        refine xc_region ?_
        refine xl_pure rfl rfl rfl (pv_move (v := .int _ _) rfl rfl) ?_
        refine xl_pure rfl rfl rfl (pv_move (v := .slice _ _ _) rfl rfl) ?_
        refine xl_pure rfl rfl rfl (pv_move (v := .int _ _) rfl rfl) ?_
        refine xl_pure rfl rfl rfl (pv_indexAddr_l rfl (sl_eq (hae (by omega)).1) rfl (by omega)) ?_
        refine xl_pure rfl rfl rfl (pv_fieldAddr rfl rfl) ?_
        refine xl_light rfl rfl rfl (lv_load (v := .int _ _) rfl rfl (by exact ld_num (j := 4) (hae (by omega)).2 hx.wide (by omega) (by decide))) ?_
        refine xl_pure rfl rfl rfl (pv_add rfl rfl rfl (fit_i64 (by omega))) ?_
        refine xl_pure rfl rfl rfl (pv_assign (v := .int _ _) rfl rfl) ?_
        refine xl_nil ?_
        refine xblock_normal ?_
        refine xthen_normal ?_
        refine xc_region ?_
        refine xl_pure rfl rfl rfl (pv_move (v := .int _ _) rfl rfl) ?_
        refine xl_pure rfl rfl rfl (pv_add rfl rfl rfl (fit_i64 (by omega))) ?_
        refine xl_pure rfl rfl rfl (pv_assign (v := .int _ _) rfl rfl) ?_
        refine xl_nil ?_
        refine xthen_normal ?_
        first
          | exact ⟨i + 1, ⟨rfl, rfl, iv tot1.symm, rfl, trivial⟩, ⟨by (try simp only); omega, rfl, hX⟩, by (try simp only); omega⟩
          | exact ⟨i + 1, ⟨rfl, rfl, iv (by have := tot1; rw [if_neg h5_7, Int.add_zero] at this; exact this.symm), rfl, trivial⟩, ⟨by (try simp only); omega, rfl, hX⟩, by (try simp only); omega⟩
      · skip
        refine xl_nil ?_
        refine xthen_normal ?_
        refine xc_cond_f rfl ?_
        refine xc_skip ?_
        refine xblock_normal ?_
        refine xthen_normal ?_
        refine xc_region ?_
        refine xl_pure rfl rfl rfl (pv_move (v := .int _ _) rfl rfl) ?_
        refine xl_pure rfl rfl rfl (pv_add rfl rfl rfl (fit_i64 (by omega))) ?_
        refine xl_pure rfl rfl rfl (pv_assign (v := .int _ _) rfl rfl) ?_
        refine xl_nil ?_
        refine xthen_normal ?_
        first
          | exact ⟨i + 1, ⟨rfl, rfl, iv tot1.symm, rfl, trivial⟩, ⟨by (try simp only); omega, rfl, hX⟩, by (try simp only); omega⟩
          | exact ⟨i + 1, ⟨rfl, rfl, iv (by have := tot1; rw [if_neg h5_7, Int.add_zero] at this; exact this.symm), rfl, trivial⟩, ⟨by (try simp only); omega, rfl, hX⟩, by (try simp only); omega⟩
    · skip
      refine xl_nil ?_
      refine xthen_normal ?_
      refine xc_cond_f rfl ?_
      refine xc_exit ?_
      refine xthen_exit ?_
      refine xthen_exit ?_
      refine xblock_same ?_
      refine xthen_normal ?_
      refine xc_seq ?_
      refine xc_region ?_
      refine xl_pure rfl rfl rfl (pv_move (v := .int _ _) rfl rfl) ?_
      refine xl_pure rfl rfl rfl (pv_assign (v := .int _ _) rfl rfl) ?_
      refine xl_nil ?_
      refine xthen_normal ?_
      refine xc_ret ?_
      refine fin_ret (res1 (v := .int _ _) rfl rfl) ?_
      exact ⟨iv (by rw [List.take_of_length_le (by omega)]), rfl⟩

theorem c83 {O : Outer} {H : Heap} (k0 k1 k2 k3 : Int) (t : Int) :
    FnC Try.prog 83 #[.agg #[.int .i64 k0, .int .i64 k1, .int .i64 k2, .int .i64 k3], .int .i64 t] O H (fun v H' => v = .agg #[.int .i64 k0, .int .i64 k1, .int .i64 k2, .int .i64 t] ∧ Ext H H') := by
  refine fn_enter (A := [.agg #[.int .i64 k0, .int .i64 k1, .int .i64 k2, .int .i64 k3], .int .i64 t]) Try.func83 rfl rfl ?_
  have hX := Ext.refl H
  refine xc_seq ?_
  refine xc_region ?_
  refine xl_heavy rfl rfl rfl (hv_box rfl rfl) ?_
  rintro v0_0 H0_0 ⟨b0_0, rfl, hN0_0⟩
  have gb0_0 := hX.fresh hN0_0
  have hX := hX.trans hN0_0.ext
  have m0_0 := hN0_0.blk
  refine xl_heavy rfl rfl rfl (hv_alloc rfl rfl) ?_
  rintro v0_1 H0_1 ⟨b0_1, rfl, hN0_1⟩
  have gb0_1 := hX.fresh hN0_1
  have nm0_0_0_1 := m0_0.apart hN0_1
  have m0_0 := m0_0.ext hN0_1.ext
  have hX := hX.trans hN0_1.ext
  have m0_1 := hN0_1.blk
  refine xl_nil ?_
  refine xthen_normal ?_
  refine xc_seq ?_
  refine xc_region ?_
  refine xl_pure rfl rfl rfl (pv_fieldAddr rfl rfl) ?_
  refine xl_light rfl rfl rfl (lv_load (v := .int _ _) rfl rfl (ld_blk m0_0 rfl)) ?_
  refine xl_pure rfl rfl rfl (pv_fieldAddr rfl rfl) ?_
  refine xl_light rfl rfl rfl (lv_load (v := .int _ _) rfl rfl (ld_blk m0_0 rfl)) ?_
  refine xl_pure rfl rfl rfl (pv_fieldAddr rfl rfl) ?_
  refine xl_light rfl rfl rfl (lv_load (v := .int _ _) rfl rfl (ld_blk m0_0 rfl)) ?_
  refine xl_pure rfl rfl rfl (pv_move (v := .int _ _) rfl rfl) ?_
  refine xl_pure rfl rfl rfl (pv_build_s (cs := [.int _ _, .int _ _, .int _ _, .int _ _]) rfl rfl rfl) ?_
  refine xl_store rfl rfl (hv_storeA (vs := [.int _ _, .int _ _, .int _ _, .int _ _]) rfl rfl rfl (m0_1) rfl (by rfl) rfl) ?_
  rintro v1_8 H1_8 ⟨hU1_8, hZ1_8⟩
  have m0_0 := m0_0.off hU1_8.but (by first | exact nm0_0_0_1 | exact ⟨m0_0.ne m0_1 rfl⟩ | exact ⟨m0_0.ne m0_1 (by assumption)⟩ | exact ⟨Ne.symm (m0_1.ne m0_0 (by assumption))⟩)
  have hX := hX.upd hU1_8.but gb0_1
  have m0_1 := hU1_8.blk
  refine xl_nil ?_
  refine xthen_normal ?_
  refine xc_ret ?_
  refine fin_ret (resv1 rfl (rv_c (ty := 37) rfl (ld_blk_a m0_1 rfl rfl))) ?_
  exact ⟨rfl, hX⟩

theorem c101 {O : Outer} {H : Heap} {a : Option Addr} {c : Nat} {l : List (List Int)} (hx : RowsT H 99 5 a l) (hg : GooL l) (hl : l.length < 1000000) (k0 k1 k2 k3 : Int) (n : Int) (hn : n < 9223372036854775808) :
    FnC Try.prog 101 #[.slice a l.length c, .agg #[.int .i64 k0, .int .i64 k1, .int .i64 k2, .int .i64 k3], .int .i64 n] O H (fun v H' => ∃ a' c', v = .tuple #[.slice a' (layX l [k0, k1, k2, k3] n).length c', .int .i64 (layE l [k0, k1, k2, k3] n)] ∧ RowsT H' 99 5 a' (layX l [k0, k1, k2, k3] n) ∧ Ext H H') := by
  refine fn_enter (A := [.slice a l.length c, .agg #[.int .i64 k0, .int .i64 k1, .int .i64 k2, .int .i64 k3], .int .i64 n]) Try.func101 rfl rfl ?_
  have hX := Ext.refl H
  refine xc_seq ?_
  refine xc_region ?_
  refine xl_heavy rfl rfl rfl (hv_box rfl rfl) ?_
  rintro v0_0 H0_0 ⟨b0_0, rfl, hN0_0⟩
  have gb0_0 := hX.fresh hN0_0
  have hX := hX.trans hN0_0.ext
  have m0_0 := hN0_0.blk
  refine xl_pure rfl rfl rfl (pv_assign (v := .slice _ _ _) rfl rfl) ?_
  refine xl_pure rfl rfl rfl (pv_assign (v := .int _ _) rfl rfl) ?_
  refine xl_nil ?_
  refine xthen_normal ?_
  refine xc_seq ?_
  refine xc_seq ?_
  refine xc_region ?_
  refine xl_light rfl rfl rfl (lv_load (v := .agg _) rfl rfl (ld_blk_a m0_0 rfl rfl)) ?_
  refine xl_heavy rfl rfl rfl (hv_call (g := 48) rfl rfl (c48 k0 k1 k2 k3) rfl) ?_
  rintro v1_1 H1_1 ⟨hv1_1, hE1_1⟩
  have m0_0 := m0_0.ext hE1_1
  have hX := hX.trans hE1_1
  rcases hv1_1 with ⟨hi1_1, rfl⟩ | ⟨hi1_1, rfl⟩
  · skip
    refine xl_pure rfl rfl rfl (pv_not rfl rfl) ?_
    refine xl_pure rfl rfl rfl (pv_move (v := .bool _) rfl rfl) ?_
    refine xl_pure rfl rfl rfl (pv_move (v := .int _ _) rfl rfl) ?_
    refine xl_dec rfl rfl rfl (pv_lss rfl rfl rfl) (fun h1_5 => ?_) (fun h1_5 => ?_)
    · skip
      refine xl_pure rfl rfl rfl (pv_pick_f (v := .bool _) rfl rfl rfl) ?_
      refine xl_nil ?_
      refine xthen_normal ?_
      refine xc_cond_t rfl ?_
      refine xc_seq ?_
      refine xc_region ?_
      refine xl_pure rfl rfl rfl (pv_move (v := .slice _ _ _) rfl rfl) ?_
      refine xl_pure rfl rfl rfl (pv_assign (v := .slice _ _ _) rfl rfl) ?_
      refine xl_pure rfl rfl rfl (pv_assign (v := .int _ _) rfl rfl) ?_
      refine xl_nil ?_
      refine xthen_normal ?_
      refine xc_ret ?_
      refine xthen_ret ?_
      refine fin_ret (res2 (v := .slice _ _ _) (x := .int _ _) rfl rfl rfl) ?_
      obtain ⟨e1, e2⟩ := lay_arg (l := l) (k := [k0, k1, k2, k3]) (n := n) (by first | exact .inl hi1_1 | exact .inr (by omega))
      exact ⟨a, c, by rw [e1, e2], by rw [e2]; exact hx.ext hX, hX⟩
    · skip
      refine xl_pure rfl rfl rfl (pv_pick_f (v := .bool _) rfl rfl rfl) ?_
      refine xl_nil ?_
      refine xthen_normal ?_
      refine xc_cond_f rfl ?_
      refine xc_skip ?_
      refine xthen_normal ?_
      refine xc_seq ?_
      refine xc_seq ?_
      have tmx := hg.max k3
      have tp := tot_part hg (i := l.length) (Nat.le_refl _) k3
      rw [List.take_length] at tp
      have hq := hg.qty (k := [k0, k1, k2, k3]) rfl
      have hq2 : qtyB l [k0, k1, k2, k3] ≤ totB l k3 := hq.2
      refine xc_region ?_
      refine xl_pure rfl rfl rfl (pv_move (v := .int _ _) rfl rfl) ?_
      refine xl_pure rfl rfl rfl (pv_move (v := .slice _ _ _) rfl rfl) ?_
      refine xl_pure rfl rfl rfl (pv_fieldAddr rfl rfl) ?_
      refine xl_light rfl rfl rfl (lv_load (v := .int _ _) rfl rfl (ld_blk m0_0 rfl)) ?_
      refine xl_heavy rfl rfl rfl (hv_call (g := 104) rfl rfl (c104 (hx.ext hX) hg hl k3) rfl) ?_
      rintro v3_4 H3_4 ⟨rfl, rfl⟩
      refine xl_pure rfl rfl rfl (pv_sub rfl rfl rfl (fit_i64 (by omega))) ?_
      refine xl_dec rfl rfl rfl (pv_gtr rfl rfl rfl) (fun h3_6 => ?_) (fun h3_6 => ?_)
      · skip
        refine xl_nil ?_
        refine xthen_normal ?_
        refine xc_cond_t rfl ?_
        refine xc_seq ?_
        refine xc_region ?_
        refine xl_pure rfl rfl rfl (pv_move (v := .slice _ _ _) rfl rfl) ?_
        refine xl_pure rfl rfl rfl (pv_assign (v := .slice _ _ _) rfl rfl) ?_
        refine xl_pure rfl rfl rfl (pv_assign (v := .int _ _) rfl rfl) ?_
        refine xl_nil ?_
        refine xthen_normal ?_
        refine xc_ret ?_
        refine xthen_ret ?_
        refine fin_ret (res2 (v := .slice _ _ _) (x := .int _ _) rfl rfl rfl) ?_
        obtain ⟨e1, e2⟩ := lay_over (l := l) (k := [k0, k1, k2, k3]) (n := n) (by rintro (h | h); exact h hi1_1; omega) (show 1125899906842624 - totB l k3 < n by omega)
        exact ⟨a, c, by rw [e1, e2], by rw [e2]; exact hx.ext hX, hX⟩
      · skip
        refine xl_nil ?_
        refine xthen_normal ?_
        refine xc_cond_f rfl ?_
        refine xc_skip ?_
        refine xthen_normal ?_
        refine xc_seq ?_
        refine xp_start rfl (by repeat (first | with_reducible exact np_fin | with_reducible exact np_ret | with_reducible refine np_then ?_ | with_reducible refine np_block ?_)) (by kernel_rfl) ?_
        refine xp_pure (i := 0) rfl (by kernel_rfl) (by kernel_rfl) rfl rfl rfl (pv_move (v := .slice _ _ _) rfl rfl) ?_
        refine xp_light (i := 1) rfl (by kernel_rfl) (by kernel_rfl) rfl rfl rfl (lv_load (v := .agg _) rfl rfl (ld_blk_a m0_0 rfl rfl)) ?_
        refine xp_pure (i := 2) rfl (by kernel_rfl) (by kernel_rfl) rfl rfl rfl (pv_move (v := .slice _ _ _) rfl rfl) ?_
        refine xp_light (i := 3) rfl (by kernel_rfl) (by kernel_rfl) rfl rfl rfl (lv_load (v := .agg _) rfl rfl (ld_blk_a m0_0 rfl rfl)) ?_
        refine xp_pure (i := 5) rfl (by kernel_rfl) (by kernel_rfl) rfl rfl rfl (pv_move (v := .int _ _) rfl rfl) ?_
        refine xp_heavy (i := 4) (by kernel_rfl) ?_
        refine xph_val rfl rfl rfl rfl (hv_call (g := 49) rfl rfl (c49 (hx.ext hX) hg.srt hl [k0, k1, k2, k3] rfl) rfl) (pd (by kernel_rfl) (pk (by kernel_rfl) pn)) ?_
        rintro v5_4 H5_4 ⟨rfl, hE5_4⟩
        have m0_0 := m0_0.ext hE5_4
        have hX := hX.trans hE5_4
        refine ⟨(okc (lv_load (v := .agg _) rfl rfl (ld_blk_a m0_0 rfl rfl)) okn), ?_⟩
        refine xp_pure (i := 6) rfl (by kernel_rfl) (by kernel_rfl) rfl rfl rfl (pv_add rfl rfl rfl (fit_i64 (by omega))) ?_
        refine xp_heavy (i := 7) (by kernel_rfl) ?_
        refine xph_val rfl rfl rfl rfl (hv_call (g := 50) rfl rfl (c50 (hx.ext hX) hg.srt hl [k0, k1, k2, k3] rfl (qtyB l [k0, k1, k2, k3] + n)) rfl) (pd (by kernel_rfl) pn) ?_
        rintro v5_7 H5_7 ⟨a5_7, c5_7, rfl, hQ5_7, hE5_7⟩
        have m0_0 := m0_0.ext hE5_7
        have hX := hX.trans hE5_7
        refine ⟨okn, ?_⟩
        refine xp_pure (i := 8) rfl (by kernel_rfl) (by kernel_rfl) rfl rfl rfl (pv_assign (v := .slice _ _ _) rfl rfl) ?_
        refine xp_pure (i := 9) rfl (by kernel_rfl) (by kernel_rfl) rfl rfl rfl (pv_assign (v := .int _ _) rfl rfl) ?_
        refine xp_done (by kernel_rfl) ?_
        refine xthen_normal ?_
        refine xc_ret ?_
        refine fin_ret (res2 (v := .slice _ _ _) (x := .int _ _) rfl rfl rfl) ?_
        obtain ⟨e1, e2⟩ := lay_ok (l := l) (k := [k0, k1, k2, k3]) (n := n) (by rintro (h | h); exact h hi1_1; omega) (show ¬ 1125899906842624 - totB l k3 < n by omega)
        exact ⟨_, _, by rw [e1, e2], by rw [e2]; exact hQ5_7, hX⟩
  · skip
    refine xl_pure rfl rfl rfl (pv_not rfl rfl) ?_
    refine xl_pure rfl rfl rfl (pv_move (v := .bool _) rfl rfl) ?_
    refine xl_skip rfl rfl rfl ?_
    refine xl_skip rfl rfl rfl ?_
    refine xl_pure rfl rfl rfl (pv_pick_t (v := .bool _) rfl rfl rfl) ?_
    refine xl_nil ?_
    refine xthen_normal ?_
    refine xc_cond_t rfl ?_
    refine xc_seq ?_
    refine xc_region ?_
    refine xl_pure rfl rfl rfl (pv_move (v := .slice _ _ _) rfl rfl) ?_
    refine xl_pure rfl rfl rfl (pv_assign (v := .slice _ _ _) rfl rfl) ?_
    refine xl_pure rfl rfl rfl (pv_assign (v := .int _ _) rfl rfl) ?_
    refine xl_nil ?_
    refine xthen_normal ?_
    refine xc_ret ?_
    refine xthen_ret ?_
    refine fin_ret (res2 (v := .slice _ _ _) (x := .int _ _) rfl rfl rfl) ?_
    obtain ⟨e1, e2⟩ := lay_arg (l := l) (k := [k0, k1, k2, k3]) (n := n) (by first | exact .inl hi1_1 | exact .inr (by omega))
    exact ⟨a, c, by rw [e1, e2], by rw [e2]; exact hx.ext hX, hX⟩

theorem c88 {O : Outer} {H : Heap} {a : Option Addr} {c : Nat} {l : List (List Int)} (hx : RowsT H 99 5 a l) (hg : GooL l) (hl : l.length < 1000000) (k0 k1 k2 k3 : Int) (n : Int) :
    FnC Try.prog 88 #[.slice a l.length c, .agg #[.int .i64 k0, .int .i64 k1, .int .i64 k2, .int .i64 k3], .int .i64 n] O H (fun v H' => ∃ a' c', v = .tuple #[.slice a' (takX l [k0, k1, k2, k3] n).length c', .int .i64 (takE l [k0, k1, k2, k3] n)] ∧ RowsT H' 99 5 a' (takX l [k0, k1, k2, k3] n) ∧ Ext H H') := by
  refine fn_enter (A := [.slice a l.length c, .agg #[.int .i64 k0, .int .i64 k1, .int .i64 k2, .int .i64 k3], .int .i64 n]) Try.func88 rfl rfl ?_
  have hX := Ext.refl H
  refine xc_seq ?_
  refine xc_region ?_
  refine xl_heavy rfl rfl rfl (hv_box rfl rfl) ?_
  rintro v0_0 H0_0 ⟨b0_0, rfl, hN0_0⟩
  have gb0_0 := hX.fresh hN0_0
  have hX := hX.trans hN0_0.ext
  have m0_0 := hN0_0.blk
  refine xl_pure rfl rfl rfl (pv_assign (v := .slice _ _ _) rfl rfl) ?_
  refine xl_pure rfl rfl rfl (pv_assign (v := .int _ _) rfl rfl) ?_
  refine xl_nil ?_
  refine xthen_normal ?_
  refine xc_seq ?_
  refine xc_seq ?_
  refine xc_region ?_
  refine xl_light rfl rfl rfl (lv_load (v := .agg _) rfl rfl (ld_blk_a m0_0 rfl rfl)) ?_
  refine xl_heavy rfl rfl rfl (hv_call (g := 48) rfl rfl (c48 k0 k1 k2 k3) rfl) ?_
  rintro v1_1 H1_1 ⟨hv1_1, hE1_1⟩
  have m0_0 := m0_0.ext hE1_1
  have hX := hX.trans hE1_1
  rcases hv1_1 with ⟨hi1_1, rfl⟩ | ⟨hi1_1, rfl⟩
  · skip
    refine xl_pure rfl rfl rfl (pv_not rfl rfl) ?_
    refine xl_pure rfl rfl rfl (pv_move (v := .bool _) rfl rfl) ?_
    refine xl_pure rfl rfl rfl (pv_move (v := .int _ _) rfl rfl) ?_
    refine xl_dec rfl rfl rfl (pv_lss rfl rfl rfl) (fun h1_5 => ?_) (fun h1_5 => ?_)
    · skip
      refine xl_pure rfl rfl rfl (pv_pick_f (v := .bool _) rfl rfl rfl) ?_
      refine xl_nil ?_
      refine xthen_normal ?_
      refine xc_cond_t rfl ?_
      refine xc_seq ?_
      refine xc_region ?_
      refine xl_pure rfl rfl rfl (pv_move (v := .slice _ _ _) rfl rfl) ?_
      refine xl_pure rfl rfl rfl (pv_assign (v := .slice _ _ _) rfl rfl) ?_
      refine xl_pure rfl rfl rfl (pv_assign (v := .int _ _) rfl rfl) ?_
      refine xl_nil ?_
      refine xthen_normal ?_
      refine xc_ret ?_
      refine xthen_ret ?_
      refine fin_ret (res2 (v := .slice _ _ _) (x := .int _ _) rfl rfl rfl) ?_
      obtain ⟨e1, e2⟩ := tak_arg (l := l) (k := [k0, k1, k2, k3]) (n := n) (by first | exact .inl hi1_1 | exact .inr (by omega))
      exact ⟨a, c, by rw [e1, e2], by rw [e2]; exact hx.ext hX, hX⟩
    · skip
      refine xl_pure rfl rfl rfl (pv_pick_f (v := .bool _) rfl rfl rfl) ?_
      refine xl_nil ?_
      refine xthen_normal ?_
      refine xc_cond_f rfl ?_
      refine xc_skip ?_
      refine xthen_normal ?_
      refine xc_seq ?_
      refine xc_seq ?_
      have tmx : totB l k3 ≤ 1125899906842624 := hg.max k3
      have hq := hg.qty (k := [k0, k1, k2, k3]) rfl
      have hq2 : qtyB l [k0, k1, k2, k3] ≤ totB l k3 := hq.2
      refine xc_region ?_
      refine xl_pure rfl rfl rfl (pv_move (v := .int _ _) rfl rfl) ?_
      refine xl_pure rfl rfl rfl (pv_move (v := .slice _ _ _) rfl rfl) ?_
      refine xl_light rfl rfl rfl (lv_load (v := .agg _) rfl rfl (ld_blk_a m0_0 rfl rfl)) ?_
      refine xl_heavy rfl rfl rfl (hv_call (g := 49) rfl rfl (c49 (hx.ext hX) hg.srt hl [k0, k1, k2, k3] rfl) rfl) ?_
      rintro v3_3 H3_3 ⟨rfl, hE3_3⟩
      have m0_0 := m0_0.ext hE3_3
      have hX := hX.trans hE3_3
      refine xl_dec rfl rfl rfl (pv_gtr rfl rfl rfl) (fun h3_4 => ?_) (fun h3_4 => ?_)
      · skip
        refine xl_nil ?_
        refine xthen_normal ?_
        refine xc_cond_t rfl ?_
        refine xc_seq ?_
        refine xc_region ?_
        refine xl_pure rfl rfl rfl (pv_move (v := .slice _ _ _) rfl rfl) ?_
        refine xl_pure rfl rfl rfl (pv_assign (v := .slice _ _ _) rfl rfl) ?_
        refine xl_pure rfl rfl rfl (pv_assign (v := .int _ _) rfl rfl) ?_
        refine xl_nil ?_
        refine xthen_normal ?_
        refine xc_ret ?_
        refine xthen_ret ?_
        refine fin_ret (res2 (v := .slice _ _ _) (x := .int _ _) rfl rfl rfl) ?_
        obtain ⟨e1, e2⟩ := tak_items (l := l) (k := [k0, k1, k2, k3]) (n := n) (by rintro (h | h); exact h hi1_1; omega) (by omega)
        exact ⟨a, c, by rw [e1, e2], by rw [e2]; exact hx.ext hX, hX⟩
      · skip
        refine xl_nil ?_
        refine xthen_normal ?_
        refine xc_cond_f rfl ?_
        refine xc_skip ?_
        refine xthen_normal ?_
        refine xc_seq ?_
        refine xp_start rfl (by repeat (first | with_reducible exact np_fin | with_reducible exact np_ret | with_reducible refine np_then ?_ | with_reducible refine np_block ?_)) (by kernel_rfl) ?_
        refine xp_pure (i := 0) rfl (by kernel_rfl) (by kernel_rfl) rfl rfl rfl (pv_move (v := .slice _ _ _) rfl rfl) ?_
        refine xp_light (i := 1) rfl (by kernel_rfl) (by kernel_rfl) rfl rfl rfl (lv_load (v := .agg _) rfl rfl (ld_blk_a m0_0 rfl rfl)) ?_
        refine xp_pure (i := 2) rfl (by kernel_rfl) (by kernel_rfl) rfl rfl rfl (pv_move (v := .slice _ _ _) rfl rfl) ?_
        refine xp_light (i := 3) rfl (by kernel_rfl) (by kernel_rfl) rfl rfl rfl (lv_load (v := .agg _) rfl rfl (ld_blk_a m0_0 rfl rfl)) ?_
        refine xp_pure (i := 5) rfl (by kernel_rfl) (by kernel_rfl) rfl rfl rfl (pv_move (v := .int _ _) rfl rfl) ?_
        refine xp_heavy (i := 4) (by kernel_rfl) ?_
        refine xph_val rfl rfl rfl rfl (hv_call (g := 49) rfl rfl (c49 (hx.ext hX) hg.srt hl [k0, k1, k2, k3] rfl) rfl) (pd (by kernel_rfl) (pk (by kernel_rfl) pn)) ?_
        rintro v5_4 H5_4 ⟨rfl, hE5_4⟩
        have m0_0 := m0_0.ext hE5_4
        have hX := hX.trans hE5_4
        refine ⟨(okc (lv_load (v := .agg _) rfl rfl (ld_blk_a m0_0 rfl rfl)) okn), ?_⟩
        refine xp_pure (i := 6) rfl (by kernel_rfl) (by kernel_rfl) rfl rfl rfl (pv_sub rfl rfl rfl (fit_i64 (by omega))) ?_
        refine xp_heavy (i := 7) (by kernel_rfl) ?_
        refine xph_val rfl rfl rfl rfl (hv_call (g := 50) rfl rfl (c50 (hx.ext hX) hg.srt hl [k0, k1, k2, k3] rfl (qtyB l [k0, k1, k2, k3] - n)) rfl) (pd (by kernel_rfl) pn) ?_
        rintro v5_7 H5_7 ⟨a5_7, c5_7, rfl, hQ5_7, hE5_7⟩
        have m0_0 := m0_0.ext hE5_7
        have hX := hX.trans hE5_7
        refine ⟨okn, ?_⟩
        refine xp_pure (i := 8) rfl (by kernel_rfl) (by kernel_rfl) rfl rfl rfl (pv_assign (v := .slice _ _ _) rfl rfl) ?_
        refine xp_pure (i := 9) rfl (by kernel_rfl) (by kernel_rfl) rfl rfl rfl (pv_assign (v := .int _ _) rfl rfl) ?_
        refine xp_done (by kernel_rfl) ?_
        refine xthen_normal ?_
        refine xc_ret ?_
        refine fin_ret (res2 (v := .slice _ _ _) (x := .int _ _) rfl rfl rfl) ?_
        obtain ⟨e1, e2⟩ := tak_ok (l := l) (k := [k0, k1, k2, k3]) (n := n) (by rintro (h | h); exact h hi1_1; omega) (by omega)
        exact ⟨_, _, by rw [e1, e2], by rw [e2]; exact hQ5_7, hX⟩
  · skip
    refine xl_pure rfl rfl rfl (pv_not rfl rfl) ?_
    refine xl_pure rfl rfl rfl (pv_move (v := .bool _) rfl rfl) ?_
    refine xl_skip rfl rfl rfl ?_
    refine xl_skip rfl rfl rfl ?_
    refine xl_pure rfl rfl rfl (pv_pick_t (v := .bool _) rfl rfl rfl) ?_
    refine xl_nil ?_
    refine xthen_normal ?_
    refine xc_cond_t rfl ?_
    refine xc_seq ?_
    refine xc_region ?_
    refine xl_pure rfl rfl rfl (pv_move (v := .slice _ _ _) rfl rfl) ?_
    refine xl_pure rfl rfl rfl (pv_assign (v := .slice _ _ _) rfl rfl) ?_
    refine xl_pure rfl rfl rfl (pv_assign (v := .int _ _) rfl rfl) ?_
    refine xl_nil ?_
    refine xthen_normal ?_
    refine xc_ret ?_
    refine xthen_ret ?_
    refine fin_ret (res2 (v := .slice _ _ _) (x := .int _ _) rfl rfl rfl) ?_
    obtain ⟨e1, e2⟩ := tak_arg (l := l) (k := [k0, k1, k2, k3]) (n := n) (by first | exact .inl hi1_1 | exact .inr (by omega))
    exact ⟨a, c, by rw [e1, e2], by rw [e2]; exact hx.ext hX, hX⟩

theorem c86 {O : Outer} {H : Heap} {a : Option Addr} {c : Nat} {l : List (List Int)} (hx : RowsT H 99 5 a l) (hg : GooL l) (hl : l.length < 900000) (k0 k1 k2 k3 : Int) {sa : Option Addr} {sc : Nat} {s : List Stack} (hS : Stks H sa s) (hsl : s.length < 1099511627776) :
    FnC Try.prog 86 #[.slice a l.length c, .agg #[.int .i64 k0, .int .i64 k1, .int .i64 k2, .int .i64 k3], .slice sa s.length sc] O H (fun v H' => ∃ a' c', v = .tuple #[.slice a' (allX true l k0 k1 k2 s).length c', .int .i64 (allE true l k0 k1 k2 s)] ∧ RowsT H' 99 5 a' (allX true l k0 k1 k2 s) ∧ Ext H H') := by
  refine fn_enter (A := [.slice a l.length c, .agg #[.int .i64 k0, .int .i64 k1, .int .i64 k2, .int .i64 k3], .slice sa s.length sc]) Try.func86 rfl rfl ?_
  have hX := Ext.refl H
  refine xc_seq ?_
  refine xc_region ?_
  refine xl_heavy rfl rfl rfl (hv_box rfl rfl) ?_
  rintro v0_0 H0_0 ⟨b0_0, rfl, hN0_0⟩
  have gb0_0 := hX.fresh hN0_0
  have hX := hX.trans hN0_0.ext
  have m0_0 := hN0_0.blk
  refine xl_pure rfl rfl rfl (pv_assign (v := .slice _ _ _) rfl rfl) ?_
  refine xl_pure rfl rfl rfl (pv_assign (v := .int _ _) rfl rfl) ?_
  refine xl_nil ?_
  refine xthen_normal ?_
  refine xc_seq ?_
  refine xc_seq ?_
  refine xc_region ?_
  refine xl_light rfl rfl rfl (lv_load (v := .agg _) rfl rfl (ld_blk_a m0_0 rfl rfl)) ?_
  refine xl_heavy rfl rfl rfl (hv_call (g := 83) rfl rfl (c83 k0 k1 k2 k3 1) rfl) ?_
  rintro v1_1 H1_1 ⟨rfl, hE1_1⟩
  have m0_0 := m0_0.ext hE1_1
  have hX := hX.trans hE1_1
  refine xl_heavy rfl rfl rfl (hv_call (g := 48) rfl rfl (c48 k0 k1 k2 1) rfl) ?_
  rintro v1_2 H1_2 ⟨hv1_2, hE1_2⟩
  have m0_0 := m0_0.ext hE1_2
  have hX := hX.trans hE1_2
  rcases hv1_2 with ⟨hi1_2, rfl⟩ | ⟨hi1_2, rfl⟩
  · skip
    refine xl_pure rfl rfl rfl (pv_not rfl rfl) ?_
    refine xl_pure rfl rfl rfl (pv_move (v := .bool _) rfl rfl) ?_
    refine xl_pure rfl rfl rfl (pv_move (v := .slice _ _ _) rfl rfl) ?_
    refine xl_heavy rfl rfl rfl (hv_call (g := 87) rfl rfl (gRCheck s sa sc 32 (hS.ext hX) (by omega)) rfl) ?_
    rintro v1_6 H1_6 ⟨e1_6, rfl, hg1_6, hE1_6⟩
    have m0_0 := m0_0.ext hE1_6
    have hX := hX.trans hE1_6
    rcases hg1_6 with ⟨hg1_6, rfl⟩ | ⟨hg1_6, rfl⟩
    · skip
      refine xl_ndec rfl rfl rfl (pv_neq rfl rfl rfl) (fun h1_7 => ?_) (fun h1_7 => ?_)
      · skip
        refine xl_pure rfl rfl rfl (pv_pick_f (v := .bool _) rfl rfl rfl) ?_
        refine xl_nil ?_
        refine xthen_normal ?_
        refine xc_cond_f rfl ?_
        refine xc_skip ?_
        refine xthen_normal ?_
        refine xc_seq ?_
        refine xc_region ?_
        refine xl_pure rfl rfl rfl (pv_move (v := .slice _ _ _) rfl rfl) ?_
        refine xl_pure rfl rfl rfl (pv_assign (v := .slice _ _ _) rfl rfl) ?_
        refine xl_nil ?_
        refine xthen_normal ?_
        refine xc_seq ?_
        refine xc_seq ?_
        refine xc_region ?_
        refine xl_pure rfl rfl rfl (pv_assign (v := .int _ _) rfl rfl) ?_
        refine xl_nil ?_
        refine xthen_normal ?_
        refine xc_block ?_
        refine xc_loop (τ := Nat × List (List Int) × Option Addr × Nat) (fun t => [(0, .slice a l.length c), (2, .slice sa s.length sc), (4, .pointer (some ⟨b0_0, 0, none⟩)), (8, .slice t.2.2.1 t.2.1.length t.2.2.2), (9, .int .i64 (t.1 : Nat))]) (fun t H' => (t.1 ≤ s.length) ∧ (runE true k0 k1 k2 l s = runE true k0 k1 k2 t.2.1 (s.drop t.1)) ∧ (runX true k0 k1 k2 l s = runX true k0 k1 k2 t.2.1 (s.drop t.1)) ∧ (GooL t.2.1) ∧ (t.2.1.length ≤ l.length + t.1) ∧ (RowsT H' 99 5 t.2.2.1 t.2.1) ∧ (Blk H' b0_0 [.int .i64 k0, .int .i64 k1, .int .i64 k2, .int .i64 k3] 37) ∧ (Ext H H')) (fun t H' => s.length - t.1) (0, l, a, c) ?_ ?_ ?_
        · exact ⟨rfl, rfl, rfl, rfl, rfl, trivial⟩
        · skip
          exact ⟨Nat.zero_le _, rfl, rfl, hg, Nat.le_refl _, hx.ext hX, m0_0, hX⟩
        · intro σ
          clear hX m0_0
          rintro ⟨i, y, a1, c1⟩ Hl5 ⟨hi, hre, hrx, hgy, hly, hQ, m0_0, hX⟩
          replace hi : i ≤ s.length := hi
          replace hre : runE true k0 k1 k2 l s = runE true k0 k1 k2 y (s.drop i) := hre
          replace hrx : runX true k0 k1 k2 l s = runX true k0 k1 k2 y (s.drop i) := hrx
          replace hgy : GooL y := hgy
          replace hly : y.length ≤ l.length + i := hly
          replace hQ : RowsT Hl5 99 5 a1 y := hQ
          replace m0_0 : Blk Hl5 b0_0 [.int .i64 k0, .int .i64 k1, .int .i64 k2, .int .i64 k3] 37 := m0_0
          replace hX : Ext H Hl5 := hX
          obtain ⟨sb, so, hse⟩ := (hS.ext hX).at'
          have h8 := hg1_6.2
          have hok : AllOk k0 k1 k2 s := ⟨hi1_2, hg1_6⟩
          show XC _ _ _ (upds σ [(0, .slice a l.length c), (2, .slice sa s.length sc), (4, .pointer (some ⟨b0_0, 0, none⟩)), (8, .slice a1 y.length c1), (9, .int .i64 (i : Nat))]) _
          refine xc_seq ?_
          refine xc_seq ?_
          refine xc_region ?_
          refine xl_pure rfl rfl rfl (pv_move (v := .int _ _) rfl rfl) ?_
          refine xl_pure rfl rfl rfl (pv_move (v := .slice _ _ _) rfl rfl) ?_
          refine xl_pure rfl rfl rfl (pv_len_l rfl rfl) ?_
          refine xl_dec rfl rfl rfl (pv_lss rfl rfl rfl) (fun h5_3 => ?_) (fun h5_3 => ?_)
          · skip
            refine xl_nil ?_
            refine xthen_normal ?_
            refine xc_cond_t rfl ?_
            refine xc_skip ?_
            refine xthen_normal ?_
            refine xc_seq ?_
            refine xc_block ?_
            refine xc_seq ?_
            obtain ⟨hx1, hx2, hq1, hq2⟩ := goods_at hg1_6 (show i < s.length by omega)
            refine xp_start rfl (by repeat (first | with_reducible exact np_fin | with_reducible exact np_ret | with_reducible refine np_then ?_ | with_reducible refine np_block ?_)) (by kernel_rfl) ?_
            refine xp_pure (i := 0) rfl (by kernel_rfl) (by kernel_rfl) rfl rfl rfl (pv_move (v := .slice _ _ _) rfl rfl) ?_
            refine xp_light (i := 1) rfl (by kernel_rfl) (by kernel_rfl) rfl rfl rfl (lv_load (v := .agg _) rfl rfl (ld_blk_a m0_0 rfl rfl)) ?_
            refine xp_pure (i := 2) rfl (by kernel_rfl) (by kernel_rfl) rfl rfl rfl (pv_move (v := .slice _ _ _) rfl rfl) ?_
            refine xp_pure (i := 3) rfl (by kernel_rfl) (by kernel_rfl) rfl rfl rfl (pv_move (v := .int _ _) rfl rfl) ?_
            refine xp_pure (i := 4) rfl (by kernel_rfl) (by kernel_rfl) rfl rfl rfl (pv_indexAddr_l rfl (sl_eq (hse (by omega)).1) rfl (by omega)) ?_
            refine xp_pure (i := 5) rfl (by kernel_rfl) (by kernel_rfl) rfl rfl rfl (pv_fieldAddr rfl rfl) ?_
            refine xp_light (i := 6) rfl (by kernel_rfl) (by kernel_rfl) rfl rfl rfl (lv_load (v := .int _ _) rfl rfl (by exact ((hse (by omega)).2 i (by omega)).1)) ?_
            refine xp_pure (i := 8) rfl (by kernel_rfl) (by kernel_rfl) rfl rfl rfl (pv_move (v := .slice _ _ _) rfl rfl) ?_
            refine xp_pure (i := 9) rfl (by kernel_rfl) (by kernel_rfl) rfl rfl rfl (pv_move (v := .int _ _) rfl rfl) ?_
            refine xp_pure (i := 10) rfl (by kernel_rfl) (by kernel_rfl) rfl rfl rfl (pv_indexAddr_l rfl (sl_eq (hse (by omega)).1) rfl (by omega)) ?_
            refine xp_pure (i := 11) rfl (by kernel_rfl) (by kernel_rfl) rfl rfl rfl (pv_fieldAddr rfl rfl) ?_
            refine xp_light (i := 12) rfl (by kernel_rfl) (by kernel_rfl) rfl rfl rfl (lv_load (v := .int _ _) rfl rfl (by first | exact ((hse (by omega)).2 i (by omega)).2 | exact cellAt_ext ((hse (by omega)).2 i (by omega)).2 hE7_7)) ?_
            refine xp_heavy (i := 7) (by kernel_rfl) ?_
            refine xph_val rfl rfl rfl rfl (hv_call (g := 83) rfl rfl (c83 k0 k1 k2 k3 (gx s i)) rfl) (pk (by kernel_rfl) (pd (by kernel_rfl) (pd (by kernel_rfl) pn))) ?_
            rintro v7_7 H7_7 ⟨rfl, hE7_7⟩
            have m0_0 := m0_0.ext hE7_7
            have hQ := hQ.ext hE7_7
            have hX := hX.trans hE7_7
            refine ⟨(okc (lv_load (v := .int _ _) rfl rfl (by first | exact ((hse (by omega)).2 i (by omega)).2 | exact cellAt_ext ((hse (by omega)).2 i (by omega)).2 hE7_7)) okn), ?_⟩
            refine xp_heavy (i := 13) (by kernel_rfl) ?_
            refine xph_val rfl rfl rfl rfl (hv_call (g := 101) rfl rfl (c101 hQ hgy (by omega) k0 k1 k2 (gx s i) (gq s i) (by omega)) rfl) (pd (by kernel_rfl) pn) ?_
            rintro v7_13 H7_13 ⟨a7_13, c7_13, rfl, hQ7_13, hE7_13⟩
            have m0_0 := m0_0.ext hE7_13
            have hQ := hQ.ext hE7_13
            have hX := hX.trans hE7_13
            refine ⟨okn, ?_⟩
            refine xp_pure (i := 14) rfl (by kernel_rfl) (by kernel_rfl) rfl rfl rfl (pv_move (v := .tuple _) rfl rfl) ?_
            refine xp_pure (i := 15) rfl (by kernel_rfl) (by kernel_rfl) rfl rfl rfl (pv_extract (v := .slice _ _ _) rfl rfl rfl) ?_
            refine xp_pure (i := 16) rfl (by kernel_rfl) (by kernel_rfl) rfl rfl rfl (pv_extract (v := .int _ _) rfl rfl rfl) ?_
            refine xp_pure (i := 17) rfl (by kernel_rfl) (by kernel_rfl) rfl rfl rfl (pv_assign (v := .slice _ _ _) rfl rfl) ?_
            refine xp_pure (i := 18) rfl (by kernel_rfl) (by kernel_rfl) rfl rfl rfl (pv_assign (v := .int _ _) rfl rfl) ?_
            refine xp_done (by kernel_rfl) ?_
            refine xthen_normal ?_
            refine xc_seq ?_
            refine xc_seq ?_
            refine xc_region ?_
            refine xl_pure rfl rfl rfl (pv_move (v := .int _ _) rfl rfl) ?_
            refine xl_ndec rfl rfl rfl (pv_neq rfl rfl rfl) (fun h8_1 => ?_) (fun h8_1 => ?_)
            · skip
              refine xl_nil ?_
              refine xthen_normal ?_
              refine xc_cond_f rfl ?_
              refine xc_skip ?_
              refine xthen_normal ?_
              refine xc_region ?_
              refine xl_pure rfl rfl rfl (pv_move (v := .slice _ _ _) rfl rfl) ?_
              refine xl_pure rfl rfl rfl (pv_assign (v := .slice _ _ _) rfl rfl) ?_
              refine xl_nil ?_
              refine xblock_normal ?_
              refine xthen_normal ?_
              refine xc_region ?_
              refine xl_pure rfl rfl rfl (pv_move (v := .int _ _) rfl rfl) ?_
              refine xl_pure rfl rfl rfl (pv_add rfl rfl rfl (fit_i64 (by omega))) ?_
              refine xl_pure rfl rfl rfl (pv_assign (v := .int _ _) rfl rfl) ?_
              refine xl_nil ?_
              refine xthen_normal ?_
              exact ⟨(i + 1, _, _, _), ⟨rfl, rfl, rfl, rfl, rfl, trivial⟩, ⟨by (try simp only); omega, hre.trans (run_next (d := true) (by omega) h8_1).1, hrx.trans (run_next (d := true) (by omega) h8_1).2, (goo_d (d := true) hgy rfl).1, Nat.le_trans (goo_d (d := true) hgy rfl).2 (by omega), hQ7_13, m0_0, hX⟩, by (try simp only); omega⟩
            · skip
              refine xl_nil ?_
              refine xthen_normal ?_
              refine xc_cond_t rfl ?_
              refine xc_seq ?_
              refine xc_region ?_
              refine xl_pure rfl rfl rfl (pv_move (v := .slice _ _ _) rfl rfl) ?_
              refine xl_pure rfl rfl rfl (pv_move (v := .int _ _) rfl rfl) ?_
              refine xl_pure rfl rfl rfl (pv_assign (v := .slice _ _ _) rfl rfl) ?_
              refine xl_pure rfl rfl rfl (pv_assign (v := .int _ _) rfl rfl) ?_
              refine xl_nil ?_
              refine xthen_normal ?_
              refine xc_ret ?_
              refine xthen_ret ?_
              refine xblock_ret ?_
              refine xthen_ret ?_
              refine xthen_ret ?_
              refine xblock_ret ?_
              refine xthen_ret ?_
              refine fin_ret (res2 (v := .slice _ _ _) (x := .int _ _) rfl rfl rfl) ?_
              obtain ⟨e1, e2⟩ := all_stop hok (hre.trans (run_stop (d := true) (by omega) h8_1)) h8_1
              exact ⟨a, c, by rw [e1, e2]; rfl, by rw [e2]; exact hx.ext hX, hX⟩
          · skip
            refine xl_nil ?_
            refine xthen_normal ?_
            refine xc_cond_f rfl ?_
            refine xc_exit ?_
            refine xthen_exit ?_
            refine xthen_exit ?_
            refine xblock_same ?_
            refine xthen_normal ?_
            refine xc_seq ?_
            refine xc_region ?_
            refine xl_pure rfl rfl rfl (pv_move (v := .slice _ _ _) rfl rfl) ?_
            refine xl_pure rfl rfl rfl (pv_assign (v := .slice _ _ _) rfl rfl) ?_
            refine xl_pure rfl rfl rfl (pv_assign (v := .int _ _) rfl rfl) ?_
            refine xl_nil ?_
            refine xthen_normal ?_
            refine xc_ret ?_
            refine fin_ret (res2 (v := .slice _ _ _) (x := .int _ _) rfl rfl rfl) ?_
            obtain rfl : i = s.length := by omega
            obtain ⟨e1, e2⟩ := all_done hok (hre.trans run_end.1) (hrx.trans run_end.2)
            exact ⟨a1, c1, by rw [e1, e2], by rw [e2]; exact hQ, hX⟩
      · exact absurd (by decide) h1_7
    · skip
      refine xl_ndec rfl rfl rfl (pv_neq rfl rfl rfl) (fun h1_7 => ?_) (fun h1_7 => ?_)
      · exact absurd h1_7 (by decide)
      · skip
        refine xl_pure rfl rfl rfl (pv_pick_f (v := .bool _) rfl rfl rfl) ?_
        refine xl_nil ?_
        refine xthen_normal ?_
        refine xc_cond_t rfl ?_
        refine xc_seq ?_
        refine xc_region ?_
        refine xl_pure rfl rfl rfl (pv_move (v := .slice _ _ _) rfl rfl) ?_
        refine xl_pure rfl rfl rfl (pv_assign (v := .slice _ _ _) rfl rfl) ?_
        refine xl_pure rfl rfl rfl (pv_assign (v := .int _ _) rfl rfl) ?_
        refine xl_nil ?_
        refine xthen_normal ?_
        refine xc_ret ?_
        refine xthen_ret ?_
        refine fin_ret (res2 (v := .slice _ _ _) (x := .int _ _) rfl rfl rfl) ?_
        obtain ⟨e1, e2⟩ := all_arg (d := true) (l := l) (k0 := k0) (k1 := k1) (k2 := k2) (s := s) (fun h => by first | exact hi1_2 h.1 | exact hg1_6 h.2)
        exact ⟨a, c, by rw [e1, e2], by rw [e2]; exact hx.ext hX, hX⟩
  · skip
    refine xl_pure rfl rfl rfl (pv_not rfl rfl) ?_
    refine xl_pure rfl rfl rfl (pv_move (v := .bool _) rfl rfl) ?_
    refine xl_skip rfl rfl rfl ?_
    refine xl_skip rfl rfl rfl ?_
    refine xl_skip rfl rfl rfl ?_
    refine xl_pure rfl rfl rfl (pv_pick_t (v := .bool _) rfl rfl rfl) ?_
    refine xl_nil ?_
    refine xthen_normal ?_
    refine xc_cond_t rfl ?_
    refine xc_seq ?_
    refine xc_region ?_
    refine xl_pure rfl rfl rfl (pv_move (v := .slice _ _ _) rfl rfl) ?_
    refine xl_pure rfl rfl rfl (pv_assign (v := .slice _ _ _) rfl rfl) ?_
    refine xl_pure rfl rfl rfl (pv_assign (v := .int _ _) rfl rfl) ?_
    refine xl_nil ?_
    refine xthen_normal ?_
    refine xc_ret ?_
    refine xthen_ret ?_
    refine fin_ret (res2 (v := .slice _ _ _) (x := .int _ _) rfl rfl rfl) ?_
    obtain ⟨e1, e2⟩ := all_arg (d := true) (l := l) (k0 := k0) (k1 := k1) (k2 := k2) (s := s) (fun h => by first | exact hi1_2 h.1 | exact hg1_6 h.2)
    exact ⟨a, c, by rw [e1, e2], by rw [e2]; exact hx.ext hX, hX⟩

theorem c63 {O : Outer} {H : Heap} {a : Option Addr} {c : Nat} {l : List (List Int)} (hx : RowsT H 99 5 a l) (hg : GooL l) (hl : l.length < 900000) (k0 k1 k2 k3 : Int) {sa : Option Addr} {sc : Nat} {s : List Stack} (hS : Stks H sa s) (hsl : s.length < 1099511627776) :
    FnC Try.prog 63 #[.slice a l.length c, .agg #[.int .i64 k0, .int .i64 k1, .int .i64 k2, .int .i64 k3], .slice sa s.length sc] O H (fun v H' => ∃ a' c', v = .tuple #[.slice a' (allX false l k0 k1 k2 s).length c', .int .i64 (allE false l k0 k1 k2 s)] ∧ RowsT H' 99 5 a' (allX false l k0 k1 k2 s) ∧ Ext H H') := by
  refine fn_enter (A := [.slice a l.length c, .agg #[.int .i64 k0, .int .i64 k1, .int .i64 k2, .int .i64 k3], .slice sa s.length sc]) Try.func63 rfl rfl ?_
  have hX := Ext.refl H
  refine xc_seq ?_
  refine xc_region ?_
  refine xl_heavy rfl rfl rfl (hv_box rfl rfl) ?_
  rintro v0_0 H0_0 ⟨b0_0, rfl, hN0_0⟩
  have gb0_0 := hX.fresh hN0_0
  have hX := hX.trans hN0_0.ext
  have m0_0 := hN0_0.blk
  refine xl_pure rfl rfl rfl (pv_assign (v := .slice _ _ _) rfl rfl) ?_
  refine xl_pure rfl rfl rfl (pv_assign (v := .int _ _) rfl rfl) ?_
  refine xl_nil ?_
  refine xthen_normal ?_
  refine xc_seq ?_
  refine xc_seq ?_
  refine xc_region ?_
  refine xl_light rfl rfl rfl (lv_load (v := .agg _) rfl rfl (ld_blk_a m0_0 rfl rfl)) ?_
  refine xl_heavy rfl rfl rfl (hv_call (g := 83) rfl rfl (c83 k0 k1 k2 k3 1) rfl) ?_
  rintro v1_1 H1_1 ⟨rfl, hE1_1⟩
  have m0_0 := m0_0.ext hE1_1
  have hX := hX.trans hE1_1
  refine xl_heavy rfl rfl rfl (hv_call (g := 48) rfl rfl (c48 k0 k1 k2 1) rfl) ?_
  rintro v1_2 H1_2 ⟨hv1_2, hE1_2⟩
  have m0_0 := m0_0.ext hE1_2
  have hX := hX.trans hE1_2
  rcases hv1_2 with ⟨hi1_2, rfl⟩ | ⟨hi1_2, rfl⟩
  · skip
    refine xl_pure rfl rfl rfl (pv_not rfl rfl) ?_
    refine xl_pure rfl rfl rfl (pv_move (v := .bool _) rfl rfl) ?_
    refine xl_pure rfl rfl rfl (pv_move (v := .slice _ _ _) rfl rfl) ?_
    refine xl_heavy rfl rfl rfl (hv_call (g := 87) rfl rfl (gRCheck s sa sc 32 (hS.ext hX) (by omega)) rfl) ?_
    rintro v1_6 H1_6 ⟨e1_6, rfl, hg1_6, hE1_6⟩
    have m0_0 := m0_0.ext hE1_6
    have hX := hX.trans hE1_6
    rcases hg1_6 with ⟨hg1_6, rfl⟩ | ⟨hg1_6, rfl⟩
    · skip
      refine xl_ndec rfl rfl rfl (pv_neq rfl rfl rfl) (fun h1_7 => ?_) (fun h1_7 => ?_)
      · skip
        refine xl_pure rfl rfl rfl (pv_pick_f (v := .bool _) rfl rfl rfl) ?_
        refine xl_nil ?_
        refine xthen_normal ?_
        refine xc_cond_f rfl ?_
        refine xc_skip ?_
        refine xthen_normal ?_
        refine xc_seq ?_
        refine xc_region ?_
        refine xl_pure rfl rfl rfl (pv_move (v := .slice _ _ _) rfl rfl) ?_
        refine xl_pure rfl rfl rfl (pv_assign (v := .slice _ _ _) rfl rfl) ?_
        refine xl_nil ?_
        refine xthen_normal ?_
        refine xc_seq ?_
        refine xc_seq ?_
        refine xc_region ?_
        refine xl_pure rfl rfl rfl (pv_assign (v := .int _ _) rfl rfl) ?_
        refine xl_nil ?_
        refine xthen_normal ?_
        refine xc_block ?_
        refine xc_loop (τ := Nat × List (List Int) × Option Addr × Nat) (fun t => [(0, .slice a l.length c), (2, .slice sa s.length sc), (4, .pointer (some ⟨b0_0, 0, none⟩)), (8, .slice t.2.2.1 t.2.1.length t.2.2.2), (9, .int .i64 (t.1 : Nat))]) (fun t H' => (t.1 ≤ s.length) ∧ (runE false k0 k1 k2 l s = runE false k0 k1 k2 t.2.1 (s.drop t.1)) ∧ (runX false k0 k1 k2 l s = runX false k0 k1 k2 t.2.1 (s.drop t.1)) ∧ (GooL t.2.1) ∧ (t.2.1.length ≤ l.length + t.1) ∧ (RowsT H' 99 5 t.2.2.1 t.2.1) ∧ (Blk H' b0_0 [.int .i64 k0, .int .i64 k1, .int .i64 k2, .int .i64 k3] 37) ∧ (Ext H H')) (fun t H' => s.length - t.1) (0, l, a, c) ?_ ?_ ?_
        · exact ⟨rfl, rfl, rfl, rfl, rfl, trivial⟩
        · skip
          exact ⟨Nat.zero_le _, rfl, rfl, hg, Nat.le_refl _, hx.ext hX, m0_0, hX⟩
        · intro σ
          clear hX m0_0
          rintro ⟨i, y, a1, c1⟩ Hl5 ⟨hi, hre, hrx, hgy, hly, hQ, m0_0, hX⟩
          replace hi : i ≤ s.length := hi
          replace hre : runE false k0 k1 k2 l s = runE false k0 k1 k2 y (s.drop i) := hre
          replace hrx : runX false k0 k1 k2 l s = runX false k0 k1 k2 y (s.drop i) := hrx
          replace hgy : GooL y := hgy
          replace hly : y.length ≤ l.length + i := hly
          replace hQ : RowsT Hl5 99 5 a1 y := hQ
          replace m0_0 : Blk Hl5 b0_0 [.int .i64 k0, .int .i64 k1, .int .i64 k2, .int .i64 k3] 37 := m0_0
          replace hX : Ext H Hl5 := hX
          obtain ⟨sb, so, hse⟩ := (hS.ext hX).at'
          have h8 := hg1_6.2
          have hok : AllOk k0 k1 k2 s := ⟨hi1_2, hg1_6⟩
          show XC _ _ _ (upds σ [(0, .slice a l.length c), (2, .slice sa s.length sc), (4, .pointer (some ⟨b0_0, 0, none⟩)), (8, .slice a1 y.length c1), (9, .int .i64 (i : Nat))]) _
          refine xc_seq ?_
          refine xc_seq ?_
          refine xc_region ?_
          refine xl_pure rfl rfl rfl (pv_move (v := .int _ _) rfl rfl) ?_
          refine xl_pure rfl rfl rfl (pv_move (v := .slice _ _ _) rfl rfl) ?_
          refine xl_pure rfl rfl rfl (pv_len_l rfl rfl) ?_
          refine xl_dec rfl rfl rfl (pv_lss rfl rfl rfl) (fun h5_3 => ?_) (fun h5_3 => ?_)
          · skip
            refine xl_nil ?_
            refine xthen_normal ?_
            refine xc_cond_t rfl ?_
            refine xc_skip ?_
            refine xthen_normal ?_
            refine xc_seq ?_
            refine xc_block ?_
            refine xc_seq ?_
            obtain ⟨hx1, hx2, hq1, hq2⟩ := goods_at hg1_6 (show i < s.length by omega)
            refine xp_start rfl (by repeat (first | with_reducible exact np_fin | with_reducible exact np_ret | with_reducible refine np_then ?_ | with_reducible refine np_block ?_)) (by kernel_rfl) ?_
            refine xp_pure (i := 0) rfl (by kernel_rfl) (by kernel_rfl) rfl rfl rfl (pv_move (v := .slice _ _ _) rfl rfl) ?_
            refine xp_light (i := 1) rfl (by kernel_rfl) (by kernel_rfl) rfl rfl rfl (lv_load (v := .agg _) rfl rfl (ld_blk_a m0_0 rfl rfl)) ?_
            refine xp_pure (i := 2) rfl (by kernel_rfl) (by kernel_rfl) rfl rfl rfl (pv_move (v := .slice _ _ _) rfl rfl) ?_
            refine xp_pure (i := 3) rfl (by kernel_rfl) (by kernel_rfl) rfl rfl rfl (pv_move (v := .int _ _) rfl rfl) ?_
            refine xp_pure (i := 4) rfl (by kernel_rfl) (by kernel_rfl) rfl rfl rfl (pv_indexAddr_l rfl (sl_eq (hse (by omega)).1) rfl (by omega)) ?_
            refine xp_pure (i := 5) rfl (by kernel_rfl) (by kernel_rfl) rfl rfl rfl (pv_fieldAddr rfl rfl) ?_
            refine xp_light (i := 6) rfl (by kernel_rfl) (by kernel_rfl) rfl rfl rfl (lv_load (v := .int _ _) rfl rfl (by exact ((hse (by omega)).2 i (by omega)).1)) ?_
            refine xp_pure (i := 8) rfl (by kernel_rfl) (by kernel_rfl) rfl rfl rfl (pv_move (v := .slice _ _ _) rfl rfl) ?_
            refine xp_pure (i := 9) rfl (by kernel_rfl) (by kernel_rfl) rfl rfl rfl (pv_move (v := .int _ _) rfl rfl) ?_
            refine xp_pure (i := 10) rfl (by kernel_rfl) (by kernel_rfl) rfl rfl rfl (pv_indexAddr_l rfl (sl_eq (hse (by omega)).1) rfl (by omega)) ?_
            refine xp_pure (i := 11) rfl (by kernel_rfl) (by kernel_rfl) rfl rfl rfl (pv_fieldAddr rfl rfl) ?_
            refine xp_light (i := 12) rfl (by kernel_rfl) (by kernel_rfl) rfl rfl rfl (lv_load (v := .int _ _) rfl rfl (by first | exact ((hse (by omega)).2 i (by omega)).2 | exact cellAt_ext ((hse (by omega)).2 i (by omega)).2 hE7_7)) ?_
            refine xp_heavy (i := 7) (by kernel_rfl) ?_
            refine xph_val rfl rfl rfl rfl (hv_call (g := 83) rfl rfl (c83 k0 k1 k2 k3 (gx s i)) rfl) (pk (by kernel_rfl) (pd (by kernel_rfl) (pd (by kernel_rfl) pn))) ?_
            rintro v7_7 H7_7 ⟨rfl, hE7_7⟩
            have m0_0 := m0_0.ext hE7_7
            have hQ := hQ.ext hE7_7
            have hX := hX.trans hE7_7
            refine ⟨(okc (lv_load (v := .int _ _) rfl rfl (by first | exact ((hse (by omega)).2 i (by omega)).2 | exact cellAt_ext ((hse (by omega)).2 i (by omega)).2 hE7_7)) okn), ?_⟩
            refine xp_heavy (i := 13) (by kernel_rfl) ?_
            refine xph_val rfl rfl rfl rfl (hv_call (g := 88) rfl rfl (c88 hQ hgy (by omega) k0 k1 k2 (gx s i) (gq s i)) rfl) (pd (by kernel_rfl) pn) ?_
            rintro v7_13 H7_13 ⟨a7_13, c7_13, rfl, hQ7_13, hE7_13⟩
            have m0_0 := m0_0.ext hE7_13
            have hQ := hQ.ext hE7_13
            have hX := hX.trans hE7_13
            refine ⟨okn, ?_⟩
            refine xp_pure (i := 14) rfl (by kernel_rfl) (by kernel_rfl) rfl rfl rfl (pv_move (v := .tuple _) rfl rfl) ?_
            refine xp_pure (i := 15) rfl (by kernel_rfl) (by kernel_rfl) rfl rfl rfl (pv_extract (v := .slice _ _ _) rfl rfl rfl) ?_
            refine xp_pure (i := 16) rfl (by kernel_rfl) (by kernel_rfl) rfl rfl rfl (pv_extract (v := .int _ _) rfl rfl rfl) ?_
            refine xp_pure (i := 17) rfl (by kernel_rfl) (by kernel_rfl) rfl rfl rfl (pv_assign (v := .slice _ _ _) rfl rfl) ?_
            refine xp_pure (i := 18) rfl (by kernel_rfl) (by kernel_rfl) rfl rfl rfl (pv_assign (v := .int _ _) rfl rfl) ?_
            refine xp_done (by kernel_rfl) ?_
            refine xthen_normal ?_
            refine xc_seq ?_
            refine xc_seq ?_
            refine xc_region ?_
            refine xl_pure rfl rfl rfl (pv_move (v := .int _ _) rfl rfl) ?_
            refine xl_ndec rfl rfl rfl (pv_neq rfl rfl rfl) (fun h8_1 => ?_) (fun h8_1 => ?_)
            · skip
              refine xl_nil ?_
              refine xthen_normal ?_
              refine xc_cond_f rfl ?_
              refine xc_skip ?_
              refine xthen_normal ?_
              refine xc_region ?_
              refine xl_pure rfl rfl rfl (pv_move (v := .slice _ _ _) rfl rfl) ?_
              refine xl_pure rfl rfl rfl (pv_assign (v := .slice _ _ _) rfl rfl) ?_
              refine xl_nil ?_
              refine xblock_normal ?_
              refine xthen_normal ?_
              refine xc_region ?_
              refine xl_pure rfl rfl rfl (pv_move (v := .int _ _) rfl rfl) ?_
              refine xl_pure rfl rfl rfl (pv_add rfl rfl rfl (fit_i64 (by omega))) ?_
              refine xl_pure rfl rfl rfl (pv_assign (v := .int _ _) rfl rfl) ?_
              refine xl_nil ?_
              refine xthen_normal ?_
              exact ⟨(i + 1, _, _, _), ⟨rfl, rfl, rfl, rfl, rfl, trivial⟩, ⟨by (try simp only); omega, hre.trans (run_next (d := false) (by omega) h8_1).1, hrx.trans (run_next (d := false) (by omega) h8_1).2, (goo_d (d := false) hgy rfl).1, Nat.le_trans (goo_d (d := false) hgy rfl).2 (by omega), hQ7_13, m0_0, hX⟩, by (try simp only); omega⟩
            · skip
              refine xl_nil ?_
              refine xthen_normal ?_
              refine xc_cond_t rfl ?_
              refine xc_seq ?_
              refine xc_region ?_
              refine xl_pure rfl rfl rfl (pv_move (v := .slice _ _ _) rfl rfl) ?_
              refine xl_pure rfl rfl rfl (pv_move (v := .int _ _) rfl rfl) ?_
              refine xl_pure rfl rfl rfl (pv_assign (v := .slice _ _ _) rfl rfl) ?_
              refine xl_pure rfl rfl rfl (pv_assign (v := .int _ _) rfl rfl) ?_
              refine xl_nil ?_
              refine xthen_normal ?_
              refine xc_ret ?_
              refine xthen_ret ?_
              refine xblock_ret ?_
              refine xthen_ret ?_
              refine xthen_ret ?_
              refine xblock_ret ?_
              refine xthen_ret ?_
              refine fin_ret (res2 (v := .slice _ _ _) (x := .int _ _) rfl rfl rfl) ?_
              obtain ⟨e1, e2⟩ := all_stop hok (hre.trans (run_stop (d := false) (by omega) h8_1)) h8_1
              exact ⟨a, c, by rw [e1, e2]; rfl, by rw [e2]; exact hx.ext hX, hX⟩
          · skip
            refine xl_nil ?_
            refine xthen_normal ?_
            refine xc_cond_f rfl ?_
            refine xc_exit ?_
            refine xthen_exit ?_
            refine xthen_exit ?_
            refine xblock_same ?_
            refine xthen_normal ?_
            refine xc_seq ?_
            refine xc_region ?_
            refine xl_pure rfl rfl rfl (pv_move (v := .slice _ _ _) rfl rfl) ?_
            refine xl_pure rfl rfl rfl (pv_assign (v := .slice _ _ _) rfl rfl) ?_
            refine xl_pure rfl rfl rfl (pv_assign (v := .int _ _) rfl rfl) ?_
            refine xl_nil ?_
            refine xthen_normal ?_
            refine xc_ret ?_
            refine fin_ret (res2 (v := .slice _ _ _) (x := .int _ _) rfl rfl rfl) ?_
            obtain rfl : i = s.length := by omega
            obtain ⟨e1, e2⟩ := all_done hok (hre.trans run_end.1) (hrx.trans run_end.2)
            exact ⟨a1, c1, by rw [e1, e2], by rw [e2]; exact hQ, hX⟩
      · exact absurd (by decide) h1_7
    · skip
      refine xl_ndec rfl rfl rfl (pv_neq rfl rfl rfl) (fun h1_7 => ?_) (fun h1_7 => ?_)
      · exact absurd h1_7 (by decide)
      · skip
        refine xl_pure rfl rfl rfl (pv_pick_f (v := .bool _) rfl rfl rfl) ?_
        refine xl_nil ?_
        refine xthen_normal ?_
        refine xc_cond_t rfl ?_
        refine xc_seq ?_
        refine xc_region ?_
        refine xl_pure rfl rfl rfl (pv_move (v := .slice _ _ _) rfl rfl) ?_
        refine xl_pure rfl rfl rfl (pv_assign (v := .slice _ _ _) rfl rfl) ?_
        refine xl_pure rfl rfl rfl (pv_assign (v := .int _ _) rfl rfl) ?_
        refine xl_nil ?_
        refine xthen_normal ?_
        refine xc_ret ?_
        refine xthen_ret ?_
        refine fin_ret (res2 (v := .slice _ _ _) (x := .int _ _) rfl rfl rfl) ?_
        obtain ⟨e1, e2⟩ := all_arg (d := false) (l := l) (k0 := k0) (k1 := k1) (k2 := k2) (s := s) (fun h => by first | exact hi1_2 h.1 | exact hg1_6 h.2)
        exact ⟨a, c, by rw [e1, e2], by rw [e2]; exact hx.ext hX, hX⟩
  · skip
    refine xl_pure rfl rfl rfl (pv_not rfl rfl) ?_
    refine xl_pure rfl rfl rfl (pv_move (v := .bool _) rfl rfl) ?_
    refine xl_skip rfl rfl rfl ?_
    refine xl_skip rfl rfl rfl ?_
    refine xl_skip rfl rfl rfl ?_
    refine xl_pure rfl rfl rfl (pv_pick_t (v := .bool _) rfl rfl rfl) ?_
    refine xl_nil ?_
    refine xthen_normal ?_
    refine xc_cond_t rfl ?_
    refine xc_seq ?_
    refine xc_region ?_
    refine xl_pure rfl rfl rfl (pv_move (v := .slice _ _ _) rfl rfl) ?_
    refine xl_pure rfl rfl rfl (pv_assign (v := .slice _ _ _) rfl rfl) ?_
    refine xl_pure rfl rfl rfl (pv_assign (v := .int _ _) rfl rfl) ?_
    refine xl_nil ?_
    refine xthen_normal ?_
    refine xc_ret ?_
    refine xthen_ret ?_
    refine fin_ret (res2 (v := .slice _ _ _) (x := .int _ _) rfl rfl rfl) ?_
    obtain ⟨e1, e2⟩ := all_arg (d := false) (l := l) (k0 := k0) (k1 := k1) (k2 := k2) (s := s) (fun h => by first | exact hi1_2 h.1 | exact hg1_6 h.2)
    exact ⟨a, c, by rw [e1, e2], by rw [e2]; exact hx.ext hX, hX⟩

theorem c53 {O : Outer} {H : Heap} {a : Option Addr} {c : Nat} {l : List (List Int)} (hx : RowsT H 99 5 a l) (hg : GooL l) (hl : l.length < 1000000) (k0 k1 k2 k3 : Int) :
    FnC Try.prog 53 #[.slice a l.length c, .agg #[.int .i64 k0, .int .i64 k1, .int .i64 k2, .int .i64 k3]] O H (fun v H' => ∃ a' c', v = .slice a' (ofS l k0 k1 k2).length c' ∧ Stks H' a' (ofS l k0 k1 k2) ∧ Ext H H') := by
  refine fn_enter (A := [.slice a l.length c, .agg #[.int .i64 k0, .int .i64 k1, .int .i64 k2, .int .i64 k3]]) Try.func53 rfl rfl ?_
  have hX := Ext.refl H
  refine xc_seq ?_
  refine xc_region ?_
  refine xl_heavy rfl rfl rfl (hv_box rfl rfl) ?_
  rintro v0_0 H0_0 ⟨b0_0, rfl, hN0_0⟩
  have gb0_0 := hX.fresh hN0_0
  have hX := hX.trans hN0_0.ext
  have m0_0 := hN0_0.blk
  refine xl_pure rfl rfl rfl (pv_assign (v := .slice _ _ _) rfl rfl) ?_
  refine xl_nil ?_
  refine xthen_normal ?_
  refine xc_seq ?_
  refine xc_region ?_
  refine xl_pure rfl rfl rfl (pv_assign (v := .slice _ _ _) rfl rfl) ?_
  refine xl_nil ?_
  refine xthen_normal ?_
  refine xc_seq ?_
  refine xc_seq ?_
  refine xc_region ?_
  refine xl_pure rfl rfl rfl (pv_assign (v := .int _ _) rfl rfl) ?_
  refine xl_nil ?_
  refine xthen_normal ?_
  refine xc_block ?_
  refine xc_loop (τ := Nat × Option Addr × Nat) (fun t => [(0, .slice a l.length c), (3, .pointer (some ⟨b0_0, 0, none⟩)), (5, .slice t.2.1 (ofI l k0 k1 k2 t.1).length t.2.2), (6, .int .i64 ((t.1 : Nat) + 1 : Int))]) (fun t H' => (t.1 ≤ 32) ∧ (Own H' H.size 90 2 (.slice t.2.1 (ofI l k0 k1 k2 t.1).length t.2.2) (ofI l k0 k1 k2 t.1).length (fl (ofI l k0 k1 k2 t.1))) ∧ (Blk H' b0_0 [.int .i64 k0, .int .i64 k1, .int .i64 k2, .int .i64 k3] 37) ∧ (Ext H H')) (fun t H' => 32 - t.1) (0, none, 0) ?_ ?_ ?_
  · exact ⟨rfl, rfl, slv (by rw [of_zero]; rfl), rfl, trivial⟩
  · skip
    exact ⟨Nat.zero_le _, by rw [of_zero]; simpa [fl] using Own.nil _ H.size 90 2, m0_0, hX⟩
  · intro σ
    clear hX m0_0
    rintro ⟨i, va, vc⟩ Hl3 ⟨hi, ho, m0_0, hX⟩
    replace hi : i ≤ 32 := hi
    replace ho : Own Hl3 H.size 90 2 (.slice va (ofI l k0 k1 k2 i).length vc) (ofI l k0 k1 k2 i).length (fl (ofI l k0 k1 k2 i)) := ho
    replace m0_0 : Blk Hl3 b0_0 [.int .i64 k0, .int .i64 k1, .int .i64 k2, .int .i64 k3] 37 := m0_0
    replace hX : Ext H Hl3 := hX
    have hol := of_len (l := l) (k0 := k0) (k1 := k1) (k2 := k2) i
    show XC _ _ _ (upds σ [(0, .slice a l.length c), (3, .pointer (some ⟨b0_0, 0, none⟩)), (5, .slice va (ofI l k0 k1 k2 i).length vc), (6, .int .i64 ((i : Nat) + 1 : Int))]) _
    refine xc_seq ?_
    refine xc_seq ?_
    refine xc_region ?_
    refine xl_pure rfl rfl rfl (pv_move (v := .int _ _) rfl rfl) ?_
    refine xl_dec rfl rfl rfl (pv_leq rfl rfl rfl) (fun h3_1 => ?_) (fun h3_1 => ?_)
    · skip
      refine xl_nil ?_
      refine xthen_normal ?_
      refine xc_cond_t rfl ?_
      refine xc_skip ?_
      refine xthen_normal ?_
      refine xc_seq ?_
      refine xc_block ?_
      refine xc_seq ?_
      refine xc_region ?_
      refine xl_pure rfl rfl rfl (pv_move (v := .slice _ _ _) rfl rfl) ?_
      refine xl_light rfl rfl rfl (lv_load (v := .agg _) rfl rfl (ld_blk_a m0_0 rfl rfl)) ?_
      refine xl_pure rfl rfl rfl (pv_move (v := .int _ _) rfl rfl) ?_
      refine xl_heavy rfl rfl rfl (hv_call (g := 83) rfl rfl (c83 k0 k1 k2 k3 ((i : Int) + 1)) rfl) ?_
      rintro v5_3 H5_3 ⟨rfl, hE5_3⟩
      have m0_0 := m0_0.ext hE5_3
      have ho := ho.ext hE5_3
      have hX := hX.trans hE5_3
      refine xl_heavy rfl rfl rfl (hv_call (g := 49) rfl rfl (c49 (hx.ext hX) hg.srt hl [k0, k1, k2, (i : Int) + 1] rfl) rfl) ?_
      rintro v5_4 H5_4 ⟨rfl, hE5_4⟩
      have m0_0 := m0_0.ext hE5_4
      have ho := ho.ext hE5_4
      have hX := hX.trans hE5_4
      refine xl_pure rfl rfl rfl (pv_assign (v := .int _ _) rfl rfl) ?_
      refine xl_nil ?_
      refine xthen_normal ?_
      refine xc_seq ?_
      refine xc_region ?_
      refine xl_pure rfl rfl rfl (pv_move (v := .int _ _) rfl rfl) ?_
      refine xl_dec rfl rfl rfl (pv_gtr rfl rfl rfl) (fun h6_1 => ?_) (fun h6_1 => ?_)
      · skip
        refine xl_nil ?_
        refine xthen_normal ?_
        refine xc_cond_t rfl ?_
        refine xc_region ?_
        refine xl_pure rfl rfl rfl (pv_move (v := .slice _ _ _) rfl rfl) ?_
        refine xl_pure rfl rfl rfl (pv_move (v := .int _ _) rfl rfl) ?_
        refine xl_pure rfl rfl rfl (pv_move (v := .int _ _) rfl rfl) ?_
        refine xl_pure rfl rfl rfl (pv_build_s (cs := [.int _ _, .int _ _]) rfl rfl rfl) ?_
        refine xl_heavy rfl rfl rfl (hv_buildSlice (cs := [.int _ _, .int _ _]) rfl rfl rfl rfl rfl) ?_
        rintro v7_4 H7_4 ⟨b7_4, rfl, hN7_4⟩
        have gb7_4 := hX.fresh hN7_4
        have nm0_0_7_4 := m0_0.apart hN7_4
        have pm7_4_ho := ho.apartN hN7_4
        have m0_0 := m0_0.ext hN7_4.ext
        have ho := ho.ext hN7_4.ext
        have hX := hX.trans hN7_4.ext
        have m7_4 := hN7_4.blk
        refine xl_heavy rfl rfl rfl (hv_append (size := 2) rfl rfl ho rfl m7_4.row rfl (by simp [Value.oneCell']) rfl (by decide) (by omega) (by omega) hX.size) ?_
        rintro v7_5 H7_5 ⟨hO7_5, hG7_5, -, hB7_5⟩
        have m0_0 := m0_0.offT ho hG7_5 rfl
        have hX := ho.grown hX hG7_5 (Nat.le_refl _)
        obtain ⟨a7_5, c7_5, rfl⟩ := hO7_5.val
        refine xl_pure rfl rfl rfl (pv_assign (v := .slice _ _ _) rfl rfl) ?_
        refine xl_nil ?_
        refine xblock_normal ?_
        refine xthen_normal ?_
        refine xc_region ?_
        refine xl_pure rfl rfl rfl (pv_move (v := .int _ _) rfl rfl) ?_
        refine xl_pure rfl rfl rfl (pv_add rfl rfl rfl (fit_i64 (by omega))) ?_
        refine xl_pure rfl rfl rfl (pv_assign (v := .int _ _) rfl rfl) ?_
        refine xl_nil ?_
        refine xthen_normal ?_
        first
          | exact ⟨(i + 1, _, _), ⟨rfl, rfl, slv (by rw [of_has hg h6_1]; simp), rfl, trivial⟩, ⟨by (try simp only); omega, by rw [of_has hg h6_1]; simpa [fl_snoc] using hO7_5, m0_0, hX⟩, by (try simp only); omega⟩
          | exact ⟨(i + 1, _, _), ⟨rfl, rfl, slv (by rw [of_not hg h6_1]), rfl, trivial⟩, ⟨by (try simp only); omega, by rw [of_not hg h6_1]; exact ho, m0_0, hX⟩, by (try simp only); omega⟩
      · skip
        refine xl_nil ?_
        refine xthen_normal ?_
        refine xc_cond_f rfl ?_
        refine xc_skip ?_
        refine xblock_normal ?_
        refine xthen_normal ?_
        refine xc_region ?_
        refine xl_pure rfl rfl rfl (pv_move (v := .int _ _) rfl rfl) ?_
        refine xl_pure rfl rfl rfl (pv_add rfl rfl rfl (fit_i64 (by omega))) ?_
        refine xl_pure rfl rfl rfl (pv_assign (v := .int _ _) rfl rfl) ?_
        refine xl_nil ?_
        refine xthen_normal ?_
        first
          | exact ⟨(i + 1, _, _), ⟨rfl, rfl, slv (by rw [of_has hg h6_1]; simp), rfl, trivial⟩, ⟨by (try simp only); omega, by rw [of_has hg h6_1]; simpa [fl_snoc] using hO7_5, m0_0, hX⟩, by (try simp only); omega⟩
          | exact ⟨(i + 1, _, _), ⟨rfl, rfl, slv (by rw [of_not hg h6_1]), rfl, trivial⟩, ⟨by (try simp only); omega, by rw [of_not hg h6_1]; exact ho, m0_0, hX⟩, by (try simp only); omega⟩
    · skip
      refine xl_nil ?_
      refine xthen_normal ?_
      refine xc_cond_f rfl ?_
      refine xc_exit ?_
      refine xthen_exit ?_
      refine xthen_exit ?_
      refine xblock_same ?_
      refine xthen_normal ?_
      refine xc_seq ?_
      refine xc_region ?_
      refine xl_pure rfl rfl rfl (pv_move (v := .slice _ _ _) rfl rfl) ?_
      refine xl_pure rfl rfl rfl (pv_assign (v := .slice _ _ _) rfl rfl) ?_
      refine xl_nil ?_
      refine xthen_normal ?_
      refine xc_ret ?_
      refine fin_ret (res1 (v := .slice _ _ _) rfl rfl) ?_
      obtain rfl : i = 32 := by omega
      rw [of_done hg.srt hg.wide] at ho
      exact ⟨va, vc, slv (by rw [of_done hg.srt hg.wide]), own_stks ho, hX⟩
end Go.XG
