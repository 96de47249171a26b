/-
  Walks of the seat's functions over the logic XG: each function, what it computes. Printed by a program out of wip/walks.py.
-/
import Derived.Test.YtnbgdklgcoofkaaI
import Derived.Test.YtnbgdklgcoofkaaTo
import Derived.Test.YtnbgdklgcoofkaaTa
import Derived.Test.YtnbgdklgcoofkaaTb
import Derived.Test.YtnbgdklgcoofkaaTc
import Derived.Test.YtnbgdklgcoofkaaTd
import Derived.Test.YtnbgdklgcoofkaaP
import Derived.Test.YtnbgdklgcoofkaaWa
namespace Go.XG
open Go.Proofs
set_option maxRecDepth 4000
set_option maxHeartbeats 4000000
theorem c26 {O : Outer} {H : Heap} {bd b1 b2 : Nat} (d0 d1 d2 d3 d4 d5 d6 d7 d8 : Int) (p q : Int) (hI : IsD [d0, d1, d2, d3, d4, d5, d6, d7, d8]) (md : Blk H bd [.int .i64 d0, .int .i64 d1, .int .i64 d2, .int .i64 d3, .int .i64 d4, .int .i64 d5, .int .i64 d6, .int .i64 d7, .int .i64 d8] 23) (m1 : Blk H b1 [.int .i64 p] 3) (m2 : Blk H b2 [.int .i64 q] 3) :
    FnC Try.prog 26 #[.pointer (some ⟨bd, 0, none⟩), .pointer (some ⟨b1, 0, none⟩), .pointer (some ⟨b2, 0, none⟩)] O H (fun v H' => v = .int .i64 (useE d7 d8 p q) ∧ But bd H H' ∧ Blk H' bd [.int .i64 d0, .int .i64 d1, .int .i64 d2, .int .i64 d3, .int .i64 d4, .int .i64 d5, .int .i64 d6, .int .i64 (useR d7 d8 p q), .int .i64 (useB d7 d8 p q)] 23) := by
  have hi9 := isD_iff.1 hI
  refine fn_enter (A := [.pointer (some ⟨bd, 0, none⟩), .pointer (some ⟨b1, 0, none⟩), .pointer (some ⟨b2, 0, none⟩)]) Try.func26 rfl rfl ?_
  have hX := But.refl bd H
  refine xc_seq ?_
  refine xc_region ?_
  refine xl_pure rfl rfl rfl (pv_assign (v := .int _ _) rfl rfl) ?_
  refine xl_nil ?_
  refine xthen_normal ?_
  refine xc_seq ?_
  refine xc_block ?_
  refine xc_seq ?_
  refine xc_region ?_
  refine xl_light rfl rfl rfl (lv_load (v := .int _ _) rfl rfl (ld_blk m1 rfl)) ?_
  refine xl_light rfl rfl rfl (lv_load (v := .int _ _) rfl rfl (ld_blk m2 rfl)) ?_
  refine xl_heavy rfl rfl rfl (hv_call (g := 27) rfl rfl (c27 p q) rfl) ?_
  rintro v1_2 H1_2 ⟨hv1_2, rfl⟩
  rcases hv1_2 with ⟨hi1_2, rfl⟩ | ⟨hi1_2, rfl⟩
  · skip
    refine xl_pure rfl rfl rfl (pv_not rfl rfl) ?_
    refine xl_pure rfl rfl rfl (pv_assign (v := .bool _) rfl rfl) ?_
    refine xl_nil ?_
    refine xthen_normal ?_
    refine xc_cond_f rfl ?_
    refine xc_seq ?_
    refine xc_region ?_
    refine xl_pure rfl rfl rfl (pv_move (v := .pointer _) rfl rfl) ?_
    refine xl_pure rfl rfl rfl (pv_nilCheck_p rfl rfl) ?_
    refine xl_pure rfl rfl rfl (pv_fieldAddr rfl rfl) ?_
    refine xl_light rfl rfl rfl (lv_load (v := .int _ _) rfl rfl (ld_blk md rfl)) ?_
    refine xl_ndec rfl rfl rfl (pv_neq rfl rfl rfl) (fun h3_4 => ?_) (fun h3_4 => ?_)
    · skip
      refine xl_pure rfl rfl rfl (pv_assign (v := .bool _) rfl rfl) ?_
      refine xl_nil ?_
      refine xthen_normal ?_
      refine xc_cond_f rfl ?_
      refine xc_seq ?_
      refine xp_start rfl (by repeat (first | with_reducible exact np_fin | with_reducible refine np_then ?_ | with_reducible refine np_block ?_)) (by kernel_rfl) ?_
      refine xp_pure (i := 0) rfl (by kernel_rfl) (by kernel_rfl) rfl rfl rfl (pv_move (v := .pointer _) rfl rfl) ?_
      refine xp_pure (i := 1) rfl (by kernel_rfl) (by kernel_rfl) rfl rfl rfl (pv_nilCheck_p rfl rfl) ?_
      refine xp_pure (i := 2) rfl (by kernel_rfl) (by kernel_rfl) rfl rfl rfl (pv_fieldAddr rfl rfl) ?_
      refine xp_light (i := 3) rfl (by kernel_rfl) (by kernel_rfl) rfl rfl rfl (lv_load (v := .int _ _) rfl rfl (ld_blk md rfl)) ?_
      refine xp_ndec (i := 4) rfl (by kernel_rfl) (by kernel_rfl) rfl rfl rfl (pv_neq rfl rfl rfl) (fun h5_4 => ?_) (fun h5_4 => ?_)
      · skip
        refine xp_pure (i := 5) rfl (by kernel_rfl) (by kernel_rfl) rfl rfl rfl (pv_move (v := .bool _) rfl rfl) ?_
        refine xp_skip (i := 6) rfl (by kernel_rfl) (by kernel_rfl) rfl rfl rfl ?_
        refine xp_skip (i := 7) rfl (by kernel_rfl) (by kernel_rfl) rfl rfl rfl ?_
        refine xp_skip (i := 8) rfl (by kernel_rfl) (by kernel_rfl) rfl rfl rfl ?_
        refine xp_skip (i := 9) rfl (by kernel_rfl) (by kernel_rfl) rfl rfl rfl ?_
        refine xp_skip (i := 10) rfl (by kernel_rfl) (by kernel_rfl) rfl rfl rfl ?_
        refine xp_skip (i := 11) rfl (by kernel_rfl) (by kernel_rfl) rfl rfl rfl ?_
        refine xp_pure (i := 12) rfl (by kernel_rfl) (by kernel_rfl) rfl rfl rfl (pv_pick_f (v := .bool _) rfl rfl rfl) ?_
        refine xp_pure (i := 13) rfl (by kernel_rfl) (by kernel_rfl) rfl rfl rfl (pv_assign (v := .bool _) rfl rfl) ?_
        refine xp_done (by kernel_rfl) ?_
        refine xthen_normal ?_
        refine xc_cond_f rfl ?_
        refine xc_skip ?_
        refine xblock_normal ?_
        refine xthen_normal ?_
        refine xc_seq ?_
        refine xc_region ?_
        refine xl_pure rfl rfl rfl (pv_move (v := .pointer _) rfl rfl) ?_
        refine xl_light rfl rfl rfl (lv_load (v := .int _ _) rfl rfl (ld_blk m1 rfl)) ?_
        refine xl_pure rfl rfl rfl (pv_nilCheck_p rfl rfl) ?_
        refine xl_pure rfl rfl rfl (pv_fieldAddr rfl rfl) ?_
        refine xl_store rfl rfl (hv_store (vs := [.int _ _]) rfl rfl rfl (md) rfl (Nat.le_of_ble_eq_true rfl) rfl) ?_
        rintro v7_4 H7_4 ⟨hU7_4, hZ7_4⟩
        have m1 := m1.off hU7_4.but (by first | exact nmd_1.symm | exact ⟨m1.ne md rfl⟩ | exact ⟨m1.ne md (by assumption)⟩ | exact ⟨Ne.symm (md.ne m1 (by assumption))⟩)
        have m2 := m2.off hU7_4.but (by first | exact nmd_2.symm | exact ⟨m2.ne md rfl⟩ | exact ⟨m2.ne md (by assumption)⟩ | exact ⟨Ne.symm (md.ne m2 (by assumption))⟩)
        have hX := hX.trans hU7_4.but
        have md := hU7_4.blk
        refine xl_nil ?_
        refine xthen_normal ?_
        refine xc_seq ?_
        refine xc_seq ?_
        refine xc_region ?_
        refine xl_pure rfl rfl rfl (pv_move (v := .pointer _) rfl rfl) ?_
        refine xl_pure rfl rfl rfl (pv_nilCheck_p rfl rfl) ?_
        refine xl_pure rfl rfl rfl (pv_fieldAddr rfl rfl) ?_
        refine xl_light rfl rfl rfl (lv_load (v := .int _ _) rfl rfl (ld_blk md rfl)) ?_
        refine xl_ndec rfl rfl rfl (pv_neq rfl rfl rfl) (fun h8_4 => ?_) (fun h8_4 => ?_)
        · skip
          refine xl_nil ?_
          refine xthen_normal ?_
          refine xc_cond_f rfl ?_
          refine xc_skip ?_
          refine xthen_normal ?_
          refine xc_seq ?_
          refine xc_region ?_
          refine xl_pure rfl rfl rfl (pv_assign (v := .int _ _) rfl rfl) ?_
          refine xl_nil ?_
          refine xthen_normal ?_
          refine xc_ret ?_
          refine fin_ret (res1 (v := .int _ _) rfl rfl) ?_
          first
            | exact ⟨iv (by unfold useE; (repeat' split) <;> omega), hX, by rw [show useR d7 d8 p q = d7 - q by unfold useR useE; (repeat' split) <;> omega, show useB d7 d8 p q = p by unfold useB useE; (repeat' split) <;> omega]; exact md⟩
            | exact ⟨iv (by unfold useE; (repeat' split) <;> omega), hX, by rw [show useR d7 d8 p q = d7 by unfold useR useE; (repeat' split) <;> omega, show useB d7 d8 p q = p by unfold useB useE; (repeat' split) <;> omega]; exact md⟩
            | exact ⟨iv (by unfold useE; (repeat' split) <;> omega), hX, by rw [show useR d7 d8 p q = -1 by unfold useR useE; (repeat' split) <;> omega, show useB d7 d8 p q = p by unfold useB useE; (repeat' split) <;> omega]; exact md⟩
        · skip
          refine xl_nil ?_
          refine xthen_normal ?_
          refine xc_cond_t rfl ?_
          refine xp_start rfl (by repeat (first | with_reducible exact np_fin | with_reducible refine np_then ?_ | with_reducible refine np_block ?_)) (by kernel_rfl) ?_
          refine xp_pure (i := 0) rfl (by kernel_rfl) (by kernel_rfl) rfl rfl rfl (pv_move (v := .pointer _) rfl rfl) ?_
          refine xp_pure (i := 1) rfl (by kernel_rfl) (by kernel_rfl) rfl rfl rfl (pv_nilCheck_p rfl rfl) ?_
          refine xp_pure (i := 2) rfl (by kernel_rfl) (by kernel_rfl) rfl rfl rfl (pv_fieldAddr rfl rfl) ?_
          refine xp_light (i := 3) rfl (by kernel_rfl) (by kernel_rfl) rfl rfl rfl (lv_load (v := .int _ _) rfl rfl (ld_blk md rfl)) ?_
          refine xp_light (i := 4) rfl (by kernel_rfl) (by kernel_rfl) rfl rfl rfl (lv_load (v := .int _ _) rfl rfl (ld_blk m2 rfl)) ?_
          refine xp_pure (i := 5) rfl (by kernel_rfl) (by kernel_rfl) rfl rfl rfl (pv_sub rfl rfl rfl (fit_i64 (by omega))) ?_
          refine xp_pure (i := 6) rfl (by kernel_rfl) (by kernel_rfl) rfl rfl rfl (pv_nilCheck_p rfl rfl) ?_
          refine xp_pure (i := 7) rfl (by kernel_rfl) (by kernel_rfl) rfl rfl rfl (pv_fieldAddr rfl rfl) ?_
          refine xp_heavy (i := 8) (by kernel_rfl) ?_
          refine xph_store rfl rfl rfl (hv_store (vs := [.int _ _]) rfl rfl rfl (md) rfl (Nat.le_of_ble_eq_true rfl) rfl) (pd (by kernel_rfl) (pd (by kernel_rfl) pn)) ?_
          rintro v9_8 H9_8 ⟨hU9_8, hZ9_8⟩
          have m1 := m1.off hU9_8.but (by first | exact nmd_1.symm | exact ⟨m1.ne md rfl⟩ | exact ⟨m1.ne md (by assumption)⟩ | exact ⟨Ne.symm (md.ne m1 (by assumption))⟩)
          have m2 := m2.off hU9_8.but (by first | exact nmd_2.symm | exact ⟨m2.ne md rfl⟩ | exact ⟨m2.ne md (by assumption)⟩ | exact ⟨Ne.symm (md.ne m2 (by assumption))⟩)
          have hX := hX.trans hU9_8.but
          have md := hU9_8.blk
          refine ⟨okn, ?_⟩
          refine xp_done (by kernel_rfl) ?_
          refine xthen_normal ?_
          refine xc_seq ?_
          refine xc_region ?_
          refine xl_pure rfl rfl rfl (pv_assign (v := .int _ _) rfl rfl) ?_
          refine xl_nil ?_
          refine xthen_normal ?_
          refine xc_ret ?_
          refine fin_ret (res1 (v := .int _ _) rfl rfl) ?_
          first
            | exact ⟨iv (by unfold useE; (repeat' split) <;> omega), hX, by rw [show useR d7 d8 p q = d7 - q by unfold useR useE; (repeat' split) <;> omega, show useB d7 d8 p q = p by unfold useB useE; (repeat' split) <;> omega]; exact md⟩
            | exact ⟨iv (by unfold useE; (repeat' split) <;> omega), hX, by rw [show useR d7 d8 p q = d7 by unfold useR useE; (repeat' split) <;> omega, show useB d7 d8 p q = p by unfold useB useE; (repeat' split) <;> omega]; exact md⟩
            | exact ⟨iv (by unfold useE; (repeat' split) <;> omega), hX, by rw [show useR d7 d8 p q = -1 by unfold useR useE; (repeat' split) <;> omega, show useB d7 d8 p q = p by unfold useB useE; (repeat' split) <;> omega]; exact md⟩
      · skip
        refine xp_pure (i := 5) rfl (by kernel_rfl) (by kernel_rfl) rfl rfl rfl (pv_move (v := .bool _) rfl rfl) ?_
        refine xp_pure (i := 6) rfl (by kernel_rfl) (by kernel_rfl) rfl rfl rfl (pv_move (v := .pointer _) rfl rfl) ?_
        refine xp_pure (i := 7) rfl (by kernel_rfl) (by kernel_rfl) rfl rfl rfl (pv_nilCheck_p rfl rfl) ?_
        refine xp_pure (i := 8) rfl (by kernel_rfl) (by kernel_rfl) rfl rfl rfl (pv_fieldAddr rfl rfl) ?_
        refine xp_light (i := 9) rfl (by kernel_rfl) (by kernel_rfl) rfl rfl rfl (lv_load (v := .int _ _) rfl rfl (ld_blk md rfl)) ?_
        refine xp_light (i := 10) rfl (by kernel_rfl) (by kernel_rfl) rfl rfl rfl (lv_load (v := .int _ _) rfl rfl (ld_blk m2 rfl)) ?_
        refine xp_dec (i := 11) rfl (by kernel_rfl) (by kernel_rfl) rfl rfl rfl (pv_lss rfl rfl rfl) (fun h5_11 => ?_) (fun h5_11 => ?_)
        · skip
          refine xp_pure (i := 12) rfl (by kernel_rfl) (by kernel_rfl) rfl rfl rfl (pv_pick_t (v := .bool _) rfl rfl rfl) ?_
          refine xp_pure (i := 13) rfl (by kernel_rfl) (by kernel_rfl) rfl rfl rfl (pv_assign (v := .bool _) rfl rfl) ?_
          refine xp_done (by kernel_rfl) ?_
          refine xthen_normal ?_
          refine xc_cond_t rfl ?_
          refine xc_seq ?_
          refine xc_region ?_
          refine xl_pure rfl rfl rfl (pv_assign (v := .int _ _) rfl rfl) ?_
          refine xl_nil ?_
          refine xthen_normal ?_
          refine xc_ret ?_
          refine xblock_ret ?_
          refine xthen_ret ?_
          refine fin_ret (res1 (v := .int _ _) rfl rfl) ?_
          exact ⟨iv (by unfold useE; (repeat' split) <;> omega), hX, by rw [show useR d7 d8 p q = d7 by unfold useR useE; (repeat' split) <;> omega, show useB d7 d8 p q = d8 by unfold useB useE; (repeat' split) <;> omega]; exact md⟩
        · skip
          refine xp_pure (i := 12) rfl (by kernel_rfl) (by kernel_rfl) rfl rfl rfl (pv_pick_t (v := .bool _) rfl rfl rfl) ?_
          refine xp_pure (i := 13) rfl (by kernel_rfl) (by kernel_rfl) rfl rfl rfl (pv_assign (v := .bool _) rfl rfl) ?_
          refine xp_done (by kernel_rfl) ?_
          refine xthen_normal ?_
          refine xc_cond_f rfl ?_
          refine xc_skip ?_
          refine xblock_normal ?_
          refine xthen_normal ?_
          refine xc_seq ?_
          refine xc_region ?_
          refine xl_pure rfl rfl rfl (pv_move (v := .pointer _) rfl rfl) ?_
          refine xl_light rfl rfl rfl (lv_load (v := .int _ _) rfl rfl (ld_blk m1 rfl)) ?_
          refine xl_pure rfl rfl rfl (pv_nilCheck_p rfl rfl) ?_
          refine xl_pure rfl rfl rfl (pv_fieldAddr rfl rfl) ?_
          refine xl_store rfl rfl (hv_store (vs := [.int _ _]) rfl rfl rfl (md) rfl (Nat.le_of_ble_eq_true rfl) rfl) ?_
          rintro v7_4 H7_4 ⟨hU7_4, hZ7_4⟩
          have m1 := m1.off hU7_4.but (by first | exact nmd_1.symm | exact ⟨m1.ne md rfl⟩ | exact ⟨m1.ne md (by assumption)⟩ | exact ⟨Ne.symm (md.ne m1 (by assumption))⟩)
          have m2 := m2.off hU7_4.but (by first | exact nmd_2.symm | exact ⟨m2.ne md rfl⟩ | exact ⟨m2.ne md (by assumption)⟩ | exact ⟨Ne.symm (md.ne m2 (by assumption))⟩)
          have hX := hX.trans hU7_4.but
          have md := hU7_4.blk
          refine xl_nil ?_
          refine xthen_normal ?_
          refine xc_seq ?_
          refine xc_seq ?_
          refine xc_region ?_
          refine xl_pure rfl rfl rfl (pv_move (v := .pointer _) rfl rfl) ?_
          refine xl_pure rfl rfl rfl (pv_nilCheck_p rfl rfl) ?_
          refine xl_pure rfl rfl rfl (pv_fieldAddr rfl rfl) ?_
          refine xl_light rfl rfl rfl (lv_load (v := .int _ _) rfl rfl (ld_blk md rfl)) ?_
          refine xl_ndec rfl rfl rfl (pv_neq rfl rfl rfl) (fun h8_4 => ?_) (fun h8_4 => ?_)
          · skip
            refine xl_nil ?_
            refine xthen_normal ?_
            refine xc_cond_f rfl ?_
            refine xc_skip ?_
            refine xthen_normal ?_
            refine xc_seq ?_
            refine xc_region ?_
            refine xl_pure rfl rfl rfl (pv_assign (v := .int _ _) rfl rfl) ?_
            refine xl_nil ?_
            refine xthen_normal ?_
            refine xc_ret ?_
            refine fin_ret (res1 (v := .int _ _) rfl rfl) ?_
            first
              | exact ⟨iv (by unfold useE; (repeat' split) <;> omega), hX, by rw [show useR d7 d8 p q = d7 - q by unfold useR useE; (repeat' split) <;> omega, show useB d7 d8 p q = p by unfold useB useE; (repeat' split) <;> omega]; exact md⟩
              | exact ⟨iv (by unfold useE; (repeat' split) <;> omega), hX, by rw [show useR d7 d8 p q = d7 by unfold useR useE; (repeat' split) <;> omega, show useB d7 d8 p q = p by unfold useB useE; (repeat' split) <;> omega]; exact md⟩
              | exact ⟨iv (by unfold useE; (repeat' split) <;> omega), hX, by rw [show useR d7 d8 p q = -1 by unfold useR useE; (repeat' split) <;> omega, show useB d7 d8 p q = p by unfold useB useE; (repeat' split) <;> omega]; exact md⟩
          · skip
            refine xl_nil ?_
            refine xthen_normal ?_
            refine xc_cond_t rfl ?_
            refine xp_start rfl (by repeat (first | with_reducible exact np_fin | with_reducible refine np_then ?_ | with_reducible refine np_block ?_)) (by kernel_rfl) ?_
            refine xp_pure (i := 0) rfl (by kernel_rfl) (by kernel_rfl) rfl rfl rfl (pv_move (v := .pointer _) rfl rfl) ?_
            refine xp_pure (i := 1) rfl (by kernel_rfl) (by kernel_rfl) rfl rfl rfl (pv_nilCheck_p rfl rfl) ?_
            refine xp_pure (i := 2) rfl (by kernel_rfl) (by kernel_rfl) rfl rfl rfl (pv_fieldAddr rfl rfl) ?_
            refine xp_light (i := 3) rfl (by kernel_rfl) (by kernel_rfl) rfl rfl rfl (lv_load (v := .int _ _) rfl rfl (ld_blk md rfl)) ?_
            refine xp_light (i := 4) rfl (by kernel_rfl) (by kernel_rfl) rfl rfl rfl (lv_load (v := .int _ _) rfl rfl (ld_blk m2 rfl)) ?_
            refine xp_pure (i := 5) rfl (by kernel_rfl) (by kernel_rfl) rfl rfl rfl (pv_sub rfl rfl rfl (fit_i64 (by omega))) ?_
            refine xp_pure (i := 6) rfl (by kernel_rfl) (by kernel_rfl) rfl rfl rfl (pv_nilCheck_p rfl rfl) ?_
            refine xp_pure (i := 7) rfl (by kernel_rfl) (by kernel_rfl) rfl rfl rfl (pv_fieldAddr rfl rfl) ?_
            refine xp_heavy (i := 8) (by kernel_rfl) ?_
            refine xph_store rfl rfl rfl (hv_store (vs := [.int _ _]) rfl rfl rfl (md) rfl (Nat.le_of_ble_eq_true rfl) rfl) (pd (by kernel_rfl) (pd (by kernel_rfl) pn)) ?_
            rintro v9_8 H9_8 ⟨hU9_8, hZ9_8⟩
            have m1 := m1.off hU9_8.but (by first | exact nmd_1.symm | exact ⟨m1.ne md rfl⟩ | exact ⟨m1.ne md (by assumption)⟩ | exact ⟨Ne.symm (md.ne m1 (by assumption))⟩)
            have m2 := m2.off hU9_8.but (by first | exact nmd_2.symm | exact ⟨m2.ne md rfl⟩ | exact ⟨m2.ne md (by assumption)⟩ | exact ⟨Ne.symm (md.ne m2 (by assumption))⟩)
            have hX := hX.trans hU9_8.but
            have md := hU9_8.blk
            refine ⟨okn, ?_⟩
            refine xp_done (by kernel_rfl) ?_
            refine xthen_normal ?_
            refine xc_seq ?_
            refine xc_region ?_
            refine xl_pure rfl rfl rfl (pv_assign (v := .int _ _) rfl rfl) ?_
            refine xl_nil ?_
            refine xthen_normal ?_
            refine xc_ret ?_
            refine fin_ret (res1 (v := .int _ _) rfl rfl) ?_
            first
              | exact ⟨iv (by unfold useE; (repeat' split) <;> omega), hX, by rw [show useR d7 d8 p q = d7 - q by unfold useR useE; (repeat' split) <;> omega, show useB d7 d8 p q = p by unfold useB useE; (repeat' split) <;> omega]; exact md⟩
              | exact ⟨iv (by unfold useE; (repeat' split) <;> omega), hX, by rw [show useR d7 d8 p q = d7 by unfold useR useE; (repeat' split) <;> omega, show useB d7 d8 p q = p by unfold useB useE; (repeat' split) <;> omega]; exact md⟩
              | exact ⟨iv (by unfold useE; (repeat' split) <;> omega), hX, by rw [show useR d7 d8 p q = -1 by unfold useR useE; (repeat' split) <;> omega, show useB d7 d8 p q = p by unfold useB useE; (repeat' split) <;> omega]; exact md⟩
    · skip
      refine xl_pure rfl rfl rfl (pv_assign (v := .bool _) rfl rfl) ?_
      refine xl_nil ?_
      refine xthen_normal ?_
      refine xc_cond_t rfl ?_
      refine xc_seq ?_
      refine xc_region ?_
      refine xl_pure rfl rfl rfl (pv_assign (v := .int _ _) rfl rfl) ?_
      refine xl_nil ?_
      refine xthen_normal ?_
      refine xc_ret ?_
      refine xblock_ret ?_
      refine xthen_ret ?_
      refine fin_ret (res1 (v := .int _ _) rfl rfl) ?_
      exact ⟨iv (by unfold useE; (repeat' split) <;> omega), hX, by rw [show useR d7 d8 p q = d7 by unfold useR useE; (repeat' split) <;> omega, show useB d7 d8 p q = d8 by unfold useB useE; (repeat' split) <;> omega]; exact md⟩
  · skip
    refine xl_pure rfl rfl rfl (pv_not rfl rfl) ?_
    refine xl_pure rfl rfl rfl (pv_assign (v := .bool _) rfl rfl) ?_
    refine xl_nil ?_
    refine xthen_normal ?_
    refine xc_cond_t rfl ?_
    refine xc_seq ?_
    refine xc_region ?_
    refine xl_pure rfl rfl rfl (pv_assign (v := .int _ _) rfl rfl) ?_
    refine xl_nil ?_
    refine xthen_normal ?_
    refine xc_ret ?_
    refine xblock_ret ?_
    refine xthen_ret ?_
    refine fin_ret (res1 (v := .int _ _) rfl rfl) ?_
    exact ⟨iv (by unfold useE; (repeat' split) <;> omega), hX, by rw [show useR d7 d8 p q = d7 by unfold useR useE; (repeat' split) <;> omega, show useB d7 d8 p q = d8 by unfold useB useE; (repeat' split) <;> omega]; exact md⟩

theorem c30 {O : Outer} {H : Heap} {bd b1 b2 : Nat} (d0 d1 d2 d3 d4 d5 d6 d7 d8 : Int) (p q : Int) (hI : IsD [d0, d1, d2, d3, d4, d5, d6, d7, d8]) (md : Blk H bd [.int .i64 d0, .int .i64 d1, .int .i64 d2, .int .i64 d3, .int .i64 d4, .int .i64 d5, .int .i64 d6, .int .i64 d7, .int .i64 d8] 23) (m1 : Blk H b1 [.int .i64 p] 3) (m2 : Blk H b2 [.int .i64 q] 3) :
    FnC Try.prog 30 #[.pointer (some ⟨bd, 0, none⟩), .pointer (some ⟨b1, 0, none⟩), .pointer (some ⟨b2, 0, none⟩)] O H (fun v H' => v = .int .i64 (freeE d7 d8 p q) ∧ But bd H H' ∧ Blk H' bd [.int .i64 d0, .int .i64 d1, .int .i64 d2, .int .i64 d3, .int .i64 d4, .int .i64 d5, .int .i64 d6, .int .i64 (freeR d7 d8 p q), .int .i64 (freeB d7 d8 p q)] 23) := by
  have hi9 := isD_iff.1 hI
  refine fn_enter (A := [.pointer (some ⟨bd, 0, none⟩), .pointer (some ⟨b1, 0, none⟩), .pointer (some ⟨b2, 0, none⟩)]) Try.func30 rfl rfl ?_
  have hX := But.refl bd H
  refine xc_seq ?_
  refine xc_region ?_
  refine xl_pure rfl rfl rfl (pv_assign (v := .int _ _) rfl rfl) ?_
  refine xl_nil ?_
  refine xthen_normal ?_
  refine xc_seq ?_
  refine xc_block ?_
  refine xc_seq ?_
  refine xc_region ?_
  refine xl_light rfl rfl rfl (lv_load (v := .int _ _) rfl rfl (ld_blk m1 rfl)) ?_
  refine xl_light rfl rfl rfl (lv_load (v := .int _ _) rfl rfl (ld_blk m2 rfl)) ?_
  refine xl_heavy rfl rfl rfl (hv_call (g := 27) rfl rfl (c27 p q) rfl) ?_
  rintro v1_2 H1_2 ⟨hv1_2, rfl⟩
  rcases hv1_2 with ⟨hi1_2, rfl⟩ | ⟨hi1_2, rfl⟩
  · skip
    refine xl_pure rfl rfl rfl (pv_not rfl rfl) ?_
    refine xl_pure rfl rfl rfl (pv_assign (v := .bool _) rfl rfl) ?_
    refine xl_nil ?_
    refine xthen_normal ?_
    refine xc_cond_f rfl ?_
    refine xc_seq ?_
    refine xp_start rfl (by repeat (first | with_reducible exact np_fin | with_reducible refine np_then ?_ | with_reducible refine np_block ?_)) (by kernel_rfl) ?_
    refine xp_pure (i := 0) rfl (by kernel_rfl) (by kernel_rfl) rfl rfl rfl (pv_move (v := .pointer _) rfl rfl) ?_
    refine xp_pure (i := 1) rfl (by kernel_rfl) (by kernel_rfl) rfl rfl rfl (pv_nilCheck_p rfl rfl) ?_
    refine xp_pure (i := 2) rfl (by kernel_rfl) (by kernel_rfl) rfl rfl rfl (pv_fieldAddr rfl rfl) ?_
    refine xp_light (i := 3) rfl (by kernel_rfl) (by kernel_rfl) rfl rfl rfl (lv_load (v := .int _ _) rfl rfl (ld_blk md rfl)) ?_
    refine xp_light (i := 4) rfl (by kernel_rfl) (by kernel_rfl) rfl rfl rfl (lv_load (v := .int _ _) rfl rfl (ld_blk m1 rfl)) ?_
    refine xp_ndec (i := 5) rfl (by kernel_rfl) (by kernel_rfl) rfl rfl rfl (pv_neq rfl rfl rfl) (fun h3_5 => ?_) (fun h3_5 => ?_)
    · skip
      refine xp_pure (i := 6) rfl (by kernel_rfl) (by kernel_rfl) rfl rfl rfl (pv_assign (v := .bool _) rfl rfl) ?_
      refine xp_done (by kernel_rfl) ?_
      refine xthen_normal ?_
      refine xc_cond_f rfl ?_
      refine xc_seq ?_
      refine xp_start rfl (by repeat (first | with_reducible exact np_fin | with_reducible refine np_then ?_ | with_reducible refine np_block ?_)) (by kernel_rfl) ?_
      refine xp_pure (i := 0) rfl (by kernel_rfl) (by kernel_rfl) rfl rfl rfl (pv_move (v := .pointer _) rfl rfl) ?_
      refine xp_pure (i := 1) rfl (by kernel_rfl) (by kernel_rfl) rfl rfl rfl (pv_nilCheck_p rfl rfl) ?_
      refine xp_pure (i := 2) rfl (by kernel_rfl) (by kernel_rfl) rfl rfl rfl (pv_fieldAddr rfl rfl) ?_
      refine xp_light (i := 3) rfl (by kernel_rfl) (by kernel_rfl) rfl rfl rfl (lv_load (v := .int _ _) rfl rfl (ld_blk md rfl)) ?_
      refine xp_ndec (i := 4) rfl (by kernel_rfl) (by kernel_rfl) rfl rfl rfl (pv_neq rfl rfl rfl) (fun h5_4 => ?_) (fun h5_4 => ?_)
      · skip
        refine xp_pure (i := 5) rfl (by kernel_rfl) (by kernel_rfl) rfl rfl rfl (pv_move (v := .bool _) rfl rfl) ?_
        refine xp_skip (i := 6) rfl (by kernel_rfl) (by kernel_rfl) rfl rfl rfl ?_
        refine xp_skip (i := 7) rfl (by kernel_rfl) (by kernel_rfl) rfl rfl rfl ?_
        refine xp_skip (i := 8) rfl (by kernel_rfl) (by kernel_rfl) rfl rfl rfl ?_
        refine xp_skip (i := 9) rfl (by kernel_rfl) (by kernel_rfl) rfl rfl rfl ?_
        refine xp_skip (i := 10) rfl (by kernel_rfl) (by kernel_rfl) rfl rfl rfl ?_
        refine xp_skip (i := 11) rfl (by kernel_rfl) (by kernel_rfl) rfl rfl rfl ?_
        refine xp_skip (i := 12) rfl (by kernel_rfl) (by kernel_rfl) rfl rfl rfl ?_
        refine xp_pure (i := 13) rfl (by kernel_rfl) (by kernel_rfl) rfl rfl rfl (pv_pick_f (v := .bool _) rfl rfl rfl) ?_
        refine xp_pure (i := 14) rfl (by kernel_rfl) (by kernel_rfl) rfl rfl rfl (pv_assign (v := .bool _) rfl rfl) ?_
        refine xp_done (by kernel_rfl) ?_
        refine xthen_normal ?_
        refine xc_cond_f rfl ?_
        refine xc_skip ?_
        refine xblock_normal ?_
        refine xthen_normal ?_
        refine xc_seq ?_
        refine xc_region ?_
        refine xl_pure rfl rfl rfl (pv_move (v := .pointer _) rfl rfl) ?_
        refine xl_pure rfl rfl rfl (pv_nilCheck_p rfl rfl) ?_
        refine xl_pure rfl rfl rfl (pv_fieldAddr rfl rfl) ?_
        refine xl_store rfl rfl (hv_store (vs := [.int _ _]) rfl rfl rfl (md) rfl (Nat.le_of_ble_eq_true rfl) rfl) ?_
        rintro v7_3 H7_3 ⟨hU7_3, hZ7_3⟩
        have m1 := m1.off hU7_3.but (by first | exact nmd_1.symm | exact ⟨m1.ne md rfl⟩ | exact ⟨m1.ne md (by assumption)⟩ | exact ⟨Ne.symm (md.ne m1 (by assumption))⟩)
        have m2 := m2.off hU7_3.but (by first | exact nmd_2.symm | exact ⟨m2.ne md rfl⟩ | exact ⟨m2.ne md (by assumption)⟩ | exact ⟨Ne.symm (md.ne m2 (by assumption))⟩)
        have hX := hX.trans hU7_3.but
        have md := hU7_3.blk
        refine xl_nil ?_
        refine xthen_normal ?_
        refine xc_seq ?_
        refine xc_seq ?_
        refine xc_region ?_
        refine xl_pure rfl rfl rfl (pv_move (v := .pointer _) rfl rfl) ?_
        refine xl_pure rfl rfl rfl (pv_nilCheck_p rfl rfl) ?_
        refine xl_pure rfl rfl rfl (pv_fieldAddr rfl rfl) ?_
        refine xl_light rfl rfl rfl (lv_load (v := .int _ _) rfl rfl (ld_blk md rfl)) ?_
        refine xl_ndec rfl rfl rfl (pv_neq rfl rfl rfl) (fun h8_4 => ?_) (fun h8_4 => ?_)
        · skip
          refine xl_nil ?_
          refine xthen_normal ?_
          refine xc_cond_f rfl ?_
          refine xc_skip ?_
          refine xthen_normal ?_
          refine xc_seq ?_
          refine xc_region ?_
          refine xl_pure rfl rfl rfl (pv_assign (v := .int _ _) rfl rfl) ?_
          refine xl_nil ?_
          refine xthen_normal ?_
          refine xc_ret ?_
          refine fin_ret (res1 (v := .int _ _) rfl rfl) ?_
          first
            | exact ⟨iv (by unfold freeE; (repeat' split) <;> omega), hX, by rw [show freeR d7 d8 p q = d7 + q by unfold freeR freeE; (repeat' split) <;> omega, show freeB d7 d8 p q = 0 by unfold freeB freeE; (repeat' split) <;> omega]; exact md⟩
            | exact ⟨iv (by unfold freeE; (repeat' split) <;> omega), hX, by rw [show freeR d7 d8 p q = d7 by unfold freeR freeE; (repeat' split) <;> omega, show freeB d7 d8 p q = 0 by unfold freeB freeE; (repeat' split) <;> omega]; exact md⟩
            | exact ⟨iv (by unfold freeE; (repeat' split) <;> omega), hX, by rw [show freeR d7 d8 p q = -1 by unfold freeR freeE; (repeat' split) <;> omega, show freeB d7 d8 p q = 0 by unfold freeB freeE; (repeat' split) <;> omega]; exact md⟩
        · skip
          refine xl_nil ?_
          refine xthen_normal ?_
          refine xc_cond_t rfl ?_
          refine xp_start rfl (by repeat (first | with_reducible exact np_fin | with_reducible refine np_then ?_ | with_reducible refine np_block ?_)) (by kernel_rfl) ?_
          refine xp_pure (i := 0) rfl (by kernel_rfl) (by kernel_rfl) rfl rfl rfl (pv_move (v := .pointer _) rfl rfl) ?_
          refine xp_pure (i := 1) rfl (by kernel_rfl) (by kernel_rfl) rfl rfl rfl (pv_nilCheck_p rfl rfl) ?_
          refine xp_pure (i := 2) rfl (by kernel_rfl) (by kernel_rfl) rfl rfl rfl (pv_fieldAddr rfl rfl) ?_
          refine xp_light (i := 3) rfl (by kernel_rfl) (by kernel_rfl) rfl rfl rfl (lv_load (v := .int _ _) rfl rfl (ld_blk md rfl)) ?_
          refine xp_light (i := 4) rfl (by kernel_rfl) (by kernel_rfl) rfl rfl rfl (lv_load (v := .int _ _) rfl rfl (ld_blk m2 rfl)) ?_
          refine xp_pure (i := 5) rfl (by kernel_rfl) (by kernel_rfl) rfl rfl rfl (pv_add rfl rfl rfl (fit_i64 (by omega))) ?_
          refine xp_pure (i := 6) rfl (by kernel_rfl) (by kernel_rfl) rfl rfl rfl (pv_nilCheck_p rfl rfl) ?_
          refine xp_pure (i := 7) rfl (by kernel_rfl) (by kernel_rfl) rfl rfl rfl (pv_fieldAddr rfl rfl) ?_
          refine xp_heavy (i := 8) (by kernel_rfl) ?_
          refine xph_store rfl rfl rfl (hv_store (vs := [.int _ _]) rfl rfl rfl (md) rfl (Nat.le_of_ble_eq_true rfl) rfl) (pd (by kernel_rfl) (pd (by kernel_rfl) pn)) ?_
          rintro v9_8 H9_8 ⟨hU9_8, hZ9_8⟩
          have m1 := m1.off hU9_8.but (by first | exact nmd_1.symm | exact ⟨m1.ne md rfl⟩ | exact ⟨m1.ne md (by assumption)⟩ | exact ⟨Ne.symm (md.ne m1 (by assumption))⟩)
          have m2 := m2.off hU9_8.but (by first | exact nmd_2.symm | exact ⟨m2.ne md rfl⟩ | exact ⟨m2.ne md (by assumption)⟩ | exact ⟨Ne.symm (md.ne m2 (by assumption))⟩)
          have hX := hX.trans hU9_8.but
          have md := hU9_8.blk
          refine ⟨okn, ?_⟩
          refine xp_done (by kernel_rfl) ?_
          refine xthen_normal ?_
          refine xc_seq ?_
          refine xc_region ?_
          refine xl_pure rfl rfl rfl (pv_assign (v := .int _ _) rfl rfl) ?_
          refine xl_nil ?_
          refine xthen_normal ?_
          refine xc_ret ?_
          refine fin_ret (res1 (v := .int _ _) rfl rfl) ?_
          first
            | exact ⟨iv (by unfold freeE; (repeat' split) <;> omega), hX, by rw [show freeR d7 d8 p q = d7 + q by unfold freeR freeE; (repeat' split) <;> omega, show freeB d7 d8 p q = 0 by unfold freeB freeE; (repeat' split) <;> omega]; exact md⟩
            | exact ⟨iv (by unfold freeE; (repeat' split) <;> omega), hX, by rw [show freeR d7 d8 p q = d7 by unfold freeR freeE; (repeat' split) <;> omega, show freeB d7 d8 p q = 0 by unfold freeB freeE; (repeat' split) <;> omega]; exact md⟩
            | exact ⟨iv (by unfold freeE; (repeat' split) <;> omega), hX, by rw [show freeR d7 d8 p q = -1 by unfold freeR freeE; (repeat' split) <;> omega, show freeB d7 d8 p q = 0 by unfold freeB freeE; (repeat' split) <;> omega]; exact md⟩
      · skip
        refine xp_pure (i := 5) rfl (by kernel_rfl) (by kernel_rfl) rfl rfl rfl (pv_move (v := .bool _) rfl rfl) ?_
        refine xp_pure (i := 6) rfl (by kernel_rfl) (by kernel_rfl) rfl rfl rfl (pv_move (v := .pointer _) rfl rfl) ?_
        refine xp_pure (i := 7) rfl (by kernel_rfl) (by kernel_rfl) rfl rfl rfl (pv_nilCheck_p rfl rfl) ?_
        refine xp_pure (i := 8) rfl (by kernel_rfl) (by kernel_rfl) rfl rfl rfl (pv_fieldAddr rfl rfl) ?_
        refine xp_light (i := 9) rfl (by kernel_rfl) (by kernel_rfl) rfl rfl rfl (lv_load (v := .int _ _) rfl rfl (ld_blk md rfl)) ?_
        refine xp_light (i := 10) rfl (by kernel_rfl) (by kernel_rfl) rfl rfl rfl (lv_load (v := .int _ _) rfl rfl (ld_blk m2 rfl)) ?_
        refine xp_pure (i := 11) rfl (by kernel_rfl) (by kernel_rfl) rfl rfl rfl (pv_add rfl rfl rfl (fit_i64 (by omega))) ?_
        refine xp_dec (i := 12) rfl (by kernel_rfl) (by kernel_rfl) rfl rfl rfl (pv_gtr rfl rfl rfl) (fun h5_12 => ?_) (fun h5_12 => ?_)
        · skip
          refine xp_pure (i := 13) rfl (by kernel_rfl) (by kernel_rfl) rfl rfl rfl (pv_pick_t (v := .bool _) rfl rfl rfl) ?_
          refine xp_pure (i := 14) rfl (by kernel_rfl) (by kernel_rfl) rfl rfl rfl (pv_assign (v := .bool _) rfl rfl) ?_
          refine xp_done (by kernel_rfl) ?_
          refine xthen_normal ?_
          refine xc_cond_t rfl ?_
          refine xc_seq ?_
          refine xc_region ?_
          refine xl_pure rfl rfl rfl (pv_assign (v := .int _ _) rfl rfl) ?_
          refine xl_nil ?_
          refine xthen_normal ?_
          refine xc_ret ?_
          refine xblock_ret ?_
          refine xthen_ret ?_
          refine fin_ret (res1 (v := .int _ _) rfl rfl) ?_
          exact ⟨iv (by unfold freeE; (repeat' split) <;> omega), hX, by rw [show freeR d7 d8 p q = d7 by unfold freeR freeE; (repeat' split) <;> omega, show freeB d7 d8 p q = d8 by unfold freeB freeE; (repeat' split) <;> omega]; exact md⟩
        · skip
          refine xp_pure (i := 13) rfl (by kernel_rfl) (by kernel_rfl) rfl rfl rfl (pv_pick_t (v := .bool _) rfl rfl rfl) ?_
          refine xp_pure (i := 14) rfl (by kernel_rfl) (by kernel_rfl) rfl rfl rfl (pv_assign (v := .bool _) rfl rfl) ?_
          refine xp_done (by kernel_rfl) ?_
          refine xthen_normal ?_
          refine xc_cond_f rfl ?_
          refine xc_skip ?_
          refine xblock_normal ?_
          refine xthen_normal ?_
          refine xc_seq ?_
          refine xc_region ?_
          refine xl_pure rfl rfl rfl (pv_move (v := .pointer _) rfl rfl) ?_
          refine xl_pure rfl rfl rfl (pv_nilCheck_p rfl rfl) ?_
          refine xl_pure rfl rfl rfl (pv_fieldAddr rfl rfl) ?_
          refine xl_store rfl rfl (hv_store (vs := [.int _ _]) rfl rfl rfl (md) rfl (Nat.le_of_ble_eq_true rfl) rfl) ?_
          rintro v7_3 H7_3 ⟨hU7_3, hZ7_3⟩
          have m1 := m1.off hU7_3.but (by first | exact nmd_1.symm | exact ⟨m1.ne md rfl⟩ | exact ⟨m1.ne md (by assumption)⟩ | exact ⟨Ne.symm (md.ne m1 (by assumption))⟩)
          have m2 := m2.off hU7_3.but (by first | exact nmd_2.symm | exact ⟨m2.ne md rfl⟩ | exact ⟨m2.ne md (by assumption)⟩ | exact ⟨Ne.symm (md.ne m2 (by assumption))⟩)
          have hX := hX.trans hU7_3.but
          have md := hU7_3.blk
          refine xl_nil ?_
          refine xthen_normal ?_
          refine xc_seq ?_
          refine xc_seq ?_
          refine xc_region ?_
          refine xl_pure rfl rfl rfl (pv_move (v := .pointer _) rfl rfl) ?_
          refine xl_pure rfl rfl rfl (pv_nilCheck_p rfl rfl) ?_
          refine xl_pure rfl rfl rfl (pv_fieldAddr rfl rfl) ?_
          refine xl_light rfl rfl rfl (lv_load (v := .int _ _) rfl rfl (ld_blk md rfl)) ?_
          refine xl_ndec rfl rfl rfl (pv_neq rfl rfl rfl) (fun h8_4 => ?_) (fun h8_4 => ?_)
          · skip
            refine xl_nil ?_
            refine xthen_normal ?_
            refine xc_cond_f rfl ?_
            refine xc_skip ?_
            refine xthen_normal ?_
            refine xc_seq ?_
            refine xc_region ?_
            refine xl_pure rfl rfl rfl (pv_assign (v := .int _ _) rfl rfl) ?_
            refine xl_nil ?_
            refine xthen_normal ?_
            refine xc_ret ?_
            refine fin_ret (res1 (v := .int _ _) rfl rfl) ?_
            first
              | exact ⟨iv (by unfold freeE; (repeat' split) <;> omega), hX, by rw [show freeR d7 d8 p q = d7 + q by unfold freeR freeE; (repeat' split) <;> omega, show freeB d7 d8 p q = 0 by unfold freeB freeE; (repeat' split) <;> omega]; exact md⟩
              | exact ⟨iv (by unfold freeE; (repeat' split) <;> omega), hX, by rw [show freeR d7 d8 p q = d7 by unfold freeR freeE; (repeat' split) <;> omega, show freeB d7 d8 p q = 0 by unfold freeB freeE; (repeat' split) <;> omega]; exact md⟩
              | exact ⟨iv (by unfold freeE; (repeat' split) <;> omega), hX, by rw [show freeR d7 d8 p q = -1 by unfold freeR freeE; (repeat' split) <;> omega, show freeB d7 d8 p q = 0 by unfold freeB freeE; (repeat' split) <;> omega]; exact md⟩
          · skip
            refine xl_nil ?_
            refine xthen_normal ?_
            refine xc_cond_t rfl ?_
            refine xp_start rfl (by repeat (first | with_reducible exact np_fin | with_reducible refine np_then ?_ | with_reducible refine np_block ?_)) (by kernel_rfl) ?_
            refine xp_pure (i := 0) rfl (by kernel_rfl) (by kernel_rfl) rfl rfl rfl (pv_move (v := .pointer _) rfl rfl) ?_
            refine xp_pure (i := 1) rfl (by kernel_rfl) (by kernel_rfl) rfl rfl rfl (pv_nilCheck_p rfl rfl) ?_
            refine xp_pure (i := 2) rfl (by kernel_rfl) (by kernel_rfl) rfl rfl rfl (pv_fieldAddr rfl rfl) ?_
            refine xp_light (i := 3) rfl (by kernel_rfl) (by kernel_rfl) rfl rfl rfl (lv_load (v := .int _ _) rfl rfl (ld_blk md rfl)) ?_
            refine xp_light (i := 4) rfl (by kernel_rfl) (by kernel_rfl) rfl rfl rfl (lv_load (v := .int _ _) rfl rfl (ld_blk m2 rfl)) ?_
            refine xp_pure (i := 5) rfl (by kernel_rfl) (by kernel_rfl) rfl rfl rfl (pv_add rfl rfl rfl (fit_i64 (by omega))) ?_
            refine xp_pure (i := 6) rfl (by kernel_rfl) (by kernel_rfl) rfl rfl rfl (pv_nilCheck_p rfl rfl) ?_
            refine xp_pure (i := 7) rfl (by kernel_rfl) (by kernel_rfl) rfl rfl rfl (pv_fieldAddr rfl rfl) ?_
            refine xp_heavy (i := 8) (by kernel_rfl) ?_
            refine xph_store rfl rfl rfl (hv_store (vs := [.int _ _]) rfl rfl rfl (md) rfl (Nat.le_of_ble_eq_true rfl) rfl) (pd (by kernel_rfl) (pd (by kernel_rfl) pn)) ?_
            rintro v9_8 H9_8 ⟨hU9_8, hZ9_8⟩
            have m1 := m1.off hU9_8.but (by first | exact nmd_1.symm | exact ⟨m1.ne md rfl⟩ | exact ⟨m1.ne md (by assumption)⟩ | exact ⟨Ne.symm (md.ne m1 (by assumption))⟩)
            have m2 := m2.off hU9_8.but (by first | exact nmd_2.symm | exact ⟨m2.ne md rfl⟩ | exact ⟨m2.ne md (by assumption)⟩ | exact ⟨Ne.symm (md.ne m2 (by assumption))⟩)
            have hX := hX.trans hU9_8.but
            have md := hU9_8.blk
            refine ⟨okn, ?_⟩
            refine xp_done (by kernel_rfl) ?_
            refine xthen_normal ?_
            refine xc_seq ?_
            refine xc_region ?_
            refine xl_pure rfl rfl rfl (pv_assign (v := .int _ _) rfl rfl) ?_
            refine xl_nil ?_
            refine xthen_normal ?_
            refine xc_ret ?_
            refine fin_ret (res1 (v := .int _ _) rfl rfl) ?_
            first
              | exact ⟨iv (by unfold freeE; (repeat' split) <;> omega), hX, by rw [show freeR d7 d8 p q = d7 + q by unfold freeR freeE; (repeat' split) <;> omega, show freeB d7 d8 p q = 0 by unfold freeB freeE; (repeat' split) <;> omega]; exact md⟩
              | exact ⟨iv (by unfold freeE; (repeat' split) <;> omega), hX, by rw [show freeR d7 d8 p q = d7 by unfold freeR freeE; (repeat' split) <;> omega, show freeB d7 d8 p q = 0 by unfold freeB freeE; (repeat' split) <;> omega]; exact md⟩
              | exact ⟨iv (by unfold freeE; (repeat' split) <;> omega), hX, by rw [show freeR d7 d8 p q = -1 by unfold freeR freeE; (repeat' split) <;> omega, show freeB d7 d8 p q = 0 by unfold freeB freeE; (repeat' split) <;> omega]; exact md⟩
    · skip
      refine xp_pure (i := 6) rfl (by kernel_rfl) (by kernel_rfl) rfl rfl rfl (pv_assign (v := .bool _) rfl rfl) ?_
      refine xp_done (by kernel_rfl) ?_
      refine xthen_normal ?_
      refine xc_cond_t rfl ?_
      refine xc_seq ?_
      refine xc_region ?_
      refine xl_pure rfl rfl rfl (pv_assign (v := .int _ _) rfl rfl) ?_
      refine xl_nil ?_
      refine xthen_normal ?_
      refine xc_ret ?_
      refine xblock_ret ?_
      refine xthen_ret ?_
      refine fin_ret (res1 (v := .int _ _) rfl rfl) ?_
      exact ⟨iv (by unfold freeE; (repeat' split) <;> omega), hX, by rw [show freeR d7 d8 p q = d7 by unfold freeR freeE; (repeat' split) <;> omega, show freeB d7 d8 p q = d8 by unfold freeB freeE; (repeat' split) <;> omega]; exact md⟩
  · skip
    refine xl_pure rfl rfl rfl (pv_not rfl rfl) ?_
    refine xl_pure rfl rfl rfl (pv_assign (v := .bool _) rfl rfl) ?_
    refine xl_nil ?_
    refine xthen_normal ?_
    refine xc_cond_t rfl ?_
    refine xc_seq ?_
    refine xc_region ?_
    refine xl_pure rfl rfl rfl (pv_assign (v := .int _ _) rfl rfl) ?_
    refine xl_nil ?_
    refine xthen_normal ?_
    refine xc_ret ?_
    refine xblock_ret ?_
    refine xthen_ret ?_
    refine fin_ret (res1 (v := .int _ _) rfl rfl) ?_
    exact ⟨iv (by unfold freeE; (repeat' split) <;> omega), hX, by rw [show freeR d7 d8 p q = d7 by unfold freeR freeE; (repeat' split) <;> omega, show freeB d7 d8 p q = d8 by unfold freeB freeE; (repeat' split) <;> omega]; exact md⟩

theorem c28 {O : Outer} {H : Heap} {bd b1 b2 : Nat} (d0 d1 d2 d3 d4 d5 d6 d7 d8 : Int) (p q : Int) (hI : IsD [d0, d1, d2, d3, d4, d5, d6, d7, d8]) (md : Blk H bd [.int .i64 d0, .int .i64 d1, .int .i64 d2, .int .i64 d3, .int .i64 d4, .int .i64 d5, .int .i64 d6, .int .i64 d7, .int .i64 d8] 23) (m1 : Blk H b1 [.int .i64 p] 3) (m2 : Blk H b2 [.int .i64 q] 3) :
    FnC Try.prog 28 #[.pointer (some ⟨bd, 0, none⟩), .pointer (some ⟨b1, 0, none⟩), .pointer (some ⟨b2, 0, none⟩)] O H (fun v H' => v = .int .i64 (giveE d8 p q) ∧ But bd H H' ∧ Blk H' bd [.int .i64 d0, .int .i64 (giveO d1 d8 p q), .int .i64 (giveV d2 d8 p q), .int .i64 d3, .int .i64 d4, .int .i64 d5, .int .i64 d6, .int .i64 d7, .int .i64 d8] 23) := by
  have hi9 := isD_iff.1 hI
  refine fn_enter (A := [.pointer (some ⟨bd, 0, none⟩), .pointer (some ⟨b1, 0, none⟩), .pointer (some ⟨b2, 0, none⟩)]) Try.func28 rfl rfl ?_
  have hX := But.refl bd H
  refine xc_seq ?_
  refine xc_region ?_
  refine xl_pure rfl rfl rfl (pv_assign (v := .int _ _) rfl rfl) ?_
  refine xl_nil ?_
  refine xthen_normal ?_
  refine xc_seq ?_
  refine xc_block ?_
  refine xc_seq ?_
  refine xc_region ?_
  refine xl_light rfl rfl rfl (lv_load (v := .int _ _) rfl rfl (ld_blk m1 rfl)) ?_
  refine xl_heavy rfl rfl rfl (hv_call (g := 29) rfl rfl (c29 (p) (0) (1099511627776)) rfl) ?_
  rintro v1_1 H1_1 ⟨hv1_1, rfl⟩
  rcases hv1_1 with ⟨hi1_1, rfl⟩ | ⟨hi1_1, rfl⟩
  · skip
    refine xl_pure rfl rfl rfl (pv_not rfl rfl) ?_
    refine xl_pure rfl rfl rfl (pv_move (v := .bool _) rfl rfl) ?_
    refine xl_light rfl rfl rfl (lv_load (v := .int _ _) rfl rfl (ld_blk m2 rfl)) ?_
    refine xl_heavy rfl rfl rfl (hv_call (g := 29) rfl rfl (c29 (q) (0) (4)) rfl) ?_
    rintro v1_5 H1_5 ⟨hv1_5, rfl⟩
    rcases hv1_5 with ⟨hi1_5, rfl⟩ | ⟨hi1_5, rfl⟩
    · skip
      refine xl_pure rfl rfl rfl (pv_not rfl rfl) ?_
      refine xl_pure rfl rfl rfl (pv_pick_f (v := .bool _) rfl rfl rfl) ?_
      refine xl_pure rfl rfl rfl (pv_assign (v := .bool _) rfl rfl) ?_
      refine xl_nil ?_
      refine xthen_normal ?_
      refine xc_cond_f rfl ?_
      refine xc_seq ?_
      refine xc_region ?_
      refine xl_pure rfl rfl rfl (pv_move (v := .pointer _) rfl rfl) ?_
      refine xl_pure rfl rfl rfl (pv_nilCheck_p rfl rfl) ?_
      refine xl_pure rfl rfl rfl (pv_fieldAddr rfl rfl) ?_
      refine xl_light rfl rfl rfl (lv_load (v := .int _ _) rfl rfl (ld_blk md rfl)) ?_
      refine xl_ndec rfl rfl rfl (pv_neq rfl rfl rfl) (fun h3_4 => ?_) (fun h3_4 => ?_)
      · skip
        refine xl_pure rfl rfl rfl (pv_assign (v := .bool _) rfl rfl) ?_
        refine xl_nil ?_
        refine xthen_normal ?_
        refine xc_cond_f rfl ?_
        refine xc_skip ?_
        refine xblock_normal ?_
        refine xthen_normal ?_
        refine xc_seq ?_
        refine xp_start rfl (by repeat (first | with_reducible exact np_fin | with_reducible refine np_then ?_ | with_reducible refine np_block ?_)) (by kernel_rfl) ?_
        refine xp_pure (i := 0) rfl (by kernel_rfl) (by kernel_rfl) rfl rfl rfl (pv_move (v := .pointer _) rfl rfl) ?_
        refine xp_pure (i := 1) rfl (by kernel_rfl) (by kernel_rfl) rfl rfl rfl (pv_move (v := .pointer _) rfl rfl) ?_
        refine xp_light (i := 2) rfl (by kernel_rfl) (by kernel_rfl) rfl rfl rfl (lv_load (v := .int _ _) rfl rfl (ld_blk m1 rfl)) ?_
        refine xp_light (i := 3) rfl (by kernel_rfl) (by kernel_rfl) rfl rfl rfl (lv_load (v := .int _ _) rfl rfl (ld_blk m2 rfl)) ?_
        refine xp_pure (i := 4) rfl (by kernel_rfl) (by kernel_rfl) rfl rfl rfl (pv_nilCheck_p rfl rfl) ?_
        refine xp_pure (i := 5) rfl (by kernel_rfl) (by kernel_rfl) rfl rfl rfl (pv_fieldAddr rfl rfl) ?_
        refine xp_heavy (i := 6) (by kernel_rfl) ?_
        refine xph_store rfl rfl rfl (hv_store (vs := [.int _ _]) rfl rfl rfl (md) rfl (Nat.le_of_ble_eq_true rfl) rfl) (pk (by kernel_rfl) (pd (by kernel_rfl) pn)) ?_
        rintro v5_6 H5_6 ⟨hU5_6, hZ5_6⟩
        have m1 := m1.off hU5_6.but (by first | exact nmd_1.symm | exact ⟨m1.ne md rfl⟩ | exact ⟨m1.ne md (by assumption)⟩ | exact ⟨Ne.symm (md.ne m1 (by assumption))⟩)
        have m2 := m2.off hU5_6.but (by first | exact nmd_2.symm | exact ⟨m2.ne md rfl⟩ | exact ⟨m2.ne md (by assumption)⟩ | exact ⟨Ne.symm (md.ne m2 (by assumption))⟩)
        have hX := hX.trans hU5_6.but
        have md := hU5_6.blk
        refine ⟨(okc (lv_load (v := .int _ _) rfl rfl (ld_blk m2 rfl)) okn), ?_⟩
        refine xp_pure (i := 7) rfl (by kernel_rfl) (by kernel_rfl) rfl rfl rfl (pv_nilCheck_p rfl rfl) ?_
        refine xp_pure (i := 8) rfl (by kernel_rfl) (by kernel_rfl) rfl rfl rfl (pv_fieldAddr rfl rfl) ?_
        refine xp_heavy (i := 9) (by kernel_rfl) ?_
        refine xph_store rfl rfl rfl (hv_store (vs := [.int _ _]) rfl rfl rfl (md) rfl (Nat.le_of_ble_eq_true rfl) rfl) (pd (by kernel_rfl) pn) ?_
        rintro v5_9 H5_9 ⟨hU5_9, hZ5_9⟩
        have m1 := m1.off hU5_9.but (by first | exact nmd_1.symm | exact ⟨m1.ne md rfl⟩ | exact ⟨m1.ne md (by assumption)⟩ | exact ⟨Ne.symm (md.ne m1 (by assumption))⟩)
        have m2 := m2.off hU5_9.but (by first | exact nmd_2.symm | exact ⟨m2.ne md rfl⟩ | exact ⟨m2.ne md (by assumption)⟩ | exact ⟨Ne.symm (md.ne m2 (by assumption))⟩)
        have hX := hX.trans hU5_9.but
        have md := hU5_9.blk
        refine ⟨okn, ?_⟩
        refine xp_done (by kernel_rfl) ?_
        refine xthen_normal ?_
        refine xc_seq ?_
        refine xc_region ?_
        refine xl_pure rfl rfl rfl (pv_assign (v := .int _ _) rfl rfl) ?_
        refine xl_nil ?_
        refine xthen_normal ?_
        refine xc_ret ?_
        refine fin_ret (res1 (v := .int _ _) rfl rfl) ?_
        exact ⟨iv (by unfold giveE; (repeat' split) <;> omega), hX, by rw [show giveO d1 d8 p q = p by unfold giveO giveE; (repeat' split) <;> omega, show giveV d2 d8 p q = q by unfold giveV giveE; (repeat' split) <;> omega]; exact md⟩
      · skip
        refine xl_pure rfl rfl rfl (pv_assign (v := .bool _) rfl rfl) ?_
        refine xl_nil ?_
        refine xthen_normal ?_
        refine xc_cond_t rfl ?_
        refine xc_seq ?_
        refine xc_region ?_
        refine xl_pure rfl rfl rfl (pv_assign (v := .int _ _) rfl rfl) ?_
        refine xl_nil ?_
        refine xthen_normal ?_
        refine xc_ret ?_
        refine xblock_ret ?_
        refine xthen_ret ?_
        refine fin_ret (res1 (v := .int _ _) rfl rfl) ?_
        exact ⟨iv (by unfold giveE; (repeat' split) <;> omega), hX, by rw [show giveO d1 d8 p q = d1 by unfold giveO giveE; (repeat' split) <;> omega, show giveV d2 d8 p q = d2 by unfold giveV giveE; (repeat' split) <;> omega]; exact md⟩
    · skip
      refine xl_pure rfl rfl rfl (pv_not rfl rfl) ?_
      refine xl_pure rfl rfl rfl (pv_pick_f (v := .bool _) rfl rfl rfl) ?_
      refine xl_pure rfl rfl rfl (pv_assign (v := .bool _) rfl rfl) ?_
      refine xl_nil ?_
      refine xthen_normal ?_
      refine xc_cond_t rfl ?_
      refine xc_seq ?_
      refine xc_region ?_
      refine xl_pure rfl rfl rfl (pv_assign (v := .int _ _) rfl rfl) ?_
      refine xl_nil ?_
      refine xthen_normal ?_
      refine xc_ret ?_
      refine xblock_ret ?_
      refine xthen_ret ?_
      refine fin_ret (res1 (v := .int _ _) rfl rfl) ?_
      exact ⟨iv (by unfold giveE; (repeat' split) <;> omega), hX, by rw [show giveO d1 d8 p q = d1 by unfold giveO giveE; (repeat' split) <;> omega, show giveV d2 d8 p q = d2 by unfold giveV giveE; (repeat' split) <;> omega]; exact md⟩
  · skip
    refine xl_pure rfl rfl rfl (pv_not rfl rfl) ?_
    refine xl_pure rfl rfl rfl (pv_move (v := .bool _) rfl rfl) ?_
    refine xl_skip rfl rfl rfl ?_
    refine xl_skip rfl rfl rfl ?_
    refine xl_skip rfl rfl rfl ?_
    refine xl_pure rfl rfl rfl (pv_pick_t (v := .bool _) rfl rfl rfl) ?_
    refine xl_pure rfl rfl rfl (pv_assign (v := .bool _) rfl rfl) ?_
    refine xl_nil ?_
    refine xthen_normal ?_
    refine xc_cond_t rfl ?_
    refine xc_seq ?_
    refine xc_region ?_
    refine xl_pure rfl rfl rfl (pv_assign (v := .int _ _) rfl rfl) ?_
    refine xl_nil ?_
    refine xthen_normal ?_
    refine xc_ret ?_
    refine xblock_ret ?_
    refine xthen_ret ?_
    refine fin_ret (res1 (v := .int _ _) rfl rfl) ?_
    exact ⟨iv (by unfold giveE; (repeat' split) <;> omega), hX, by rw [show giveO d1 d8 p q = d1 by unfold giveO giveE; (repeat' split) <;> omega, show giveV d2 d8 p q = d2 by unfold giveV giveE; (repeat' split) <;> omega]; exact md⟩

theorem c35 {O : Outer} {H : Heap} {bd b1 b2 : Nat} (d0 d1 d2 d3 d4 d5 d6 d7 d8 : Int) (p q : Int) (hI : IsD [d0, d1, d2, d3, d4, d5, d6, d7, d8]) (md : Blk H bd [.int .i64 d0, .int .i64 d1, .int .i64 d2, .int .i64 d3, .int .i64 d4, .int .i64 d5, .int .i64 d6, .int .i64 d7, .int .i64 d8] 23) (m1 : Blk H b1 [.int .i64 p] 3) (m2 : Blk H b2 [.int .i64 q] 3) :
    FnC Try.prog 35 #[.pointer (some ⟨bd, 0, none⟩), .pointer (some ⟨b1, 0, none⟩), .pointer (some ⟨b2, 0, none⟩)] O H (fun v H' => v = .int .i64 (learnE d5 d6 p q) ∧ But bd H H' ∧ Blk H' bd [.int .i64 d0, .int .i64 d1, .int .i64 d2, .int .i64 d3, .int .i64 d4, .int .i64 (learnM d5 d6 p q), .int .i64 (learnT d5 d6 p q), .int .i64 d7, .int .i64 d8] 23) := by
  have hi9 := isD_iff.1 hI
  refine fn_enter (A := [.pointer (some ⟨bd, 0, none⟩), .pointer (some ⟨b1, 0, none⟩), .pointer (some ⟨b2, 0, none⟩)]) Try.func35 rfl rfl ?_
  have hX := But.refl bd H
  refine xc_seq ?_
  refine xc_region ?_
  refine xl_pure rfl rfl rfl (pv_assign (v := .int _ _) rfl rfl) ?_
  refine xl_nil ?_
  refine xthen_normal ?_
  refine xc_seq ?_
  refine xc_block ?_
  refine xc_seq ?_
  refine xc_region ?_
  refine xl_light rfl rfl rfl (lv_load (v := .int _ _) rfl rfl (ld_blk m1 rfl)) ?_
  refine xl_dec rfl rfl rfl (pv_lss rfl rfl rfl) (fun h1_1 => ?_) (fun h1_1 => ?_)
  · skip
    refine xl_pure rfl rfl rfl (pv_move (v := .bool _) rfl rfl) ?_
    refine xl_skip rfl rfl rfl ?_
    refine xl_skip rfl rfl rfl ?_
    refine xl_pure rfl rfl rfl (pv_pick_t (v := .bool _) rfl rfl rfl) ?_
    refine xl_pure rfl rfl rfl (pv_assign (v := .bool _) rfl rfl) ?_
    refine xl_nil ?_
    refine xthen_normal ?_
    refine xc_cond_t rfl ?_
    refine xc_seq ?_
    refine xc_region ?_
    refine xl_pure rfl rfl rfl (pv_assign (v := .int _ _) rfl rfl) ?_
    refine xl_nil ?_
    refine xthen_normal ?_
    refine xc_ret ?_
    refine xblock_ret ?_
    refine xthen_ret ?_
    refine fin_ret (res1 (v := .int _ _) rfl rfl) ?_
    exact ⟨iv (by unfold learnE; (repeat' split) <;> omega), hX, by rw [show learnM d5 d6 p q = d5 by unfold learnM learnE; (repeat' split) <;> omega, show learnT d5 d6 p q = d6 by unfold learnT learnE; (repeat' split) <;> omega]; exact md⟩
  · skip
    refine xl_pure rfl rfl rfl (pv_move (v := .bool _) rfl rfl) ?_
    refine xl_light rfl rfl rfl (lv_load (v := .int _ _) rfl rfl (ld_blk m2 rfl)) ?_
    refine xl_dec rfl rfl rfl (pv_lss rfl rfl rfl) (fun h1_4 => ?_) (fun h1_4 => ?_)
    · skip
      refine xl_pure rfl rfl rfl (pv_pick_f (v := .bool _) rfl rfl rfl) ?_
      refine xl_pure rfl rfl rfl (pv_assign (v := .bool _) rfl rfl) ?_
      refine xl_nil ?_
      refine xthen_normal ?_
      refine xc_cond_t rfl ?_
      refine xc_seq ?_
      refine xc_region ?_
      refine xl_pure rfl rfl rfl (pv_assign (v := .int _ _) rfl rfl) ?_
      refine xl_nil ?_
      refine xthen_normal ?_
      refine xc_ret ?_
      refine xblock_ret ?_
      refine xthen_ret ?_
      refine fin_ret (res1 (v := .int _ _) rfl rfl) ?_
      exact ⟨iv (by unfold learnE; (repeat' split) <;> omega), hX, by rw [show learnM d5 d6 p q = d5 by unfold learnM learnE; (repeat' split) <;> omega, show learnT d5 d6 p q = d6 by unfold learnT learnE; (repeat' split) <;> omega]; exact md⟩
    · skip
      refine xl_pure rfl rfl rfl (pv_pick_f (v := .bool _) rfl rfl rfl) ?_
      refine xl_pure rfl rfl rfl (pv_assign (v := .bool _) rfl rfl) ?_
      refine xl_nil ?_
      refine xthen_normal ?_
      refine xc_cond_f rfl ?_
      refine xc_seq ?_
      refine xp_start rfl (by repeat (first | with_reducible exact np_fin | with_reducible refine np_then ?_ | with_reducible refine np_block ?_)) (by kernel_rfl) ?_
      refine xp_light (i := 0) rfl (by kernel_rfl) (by kernel_rfl) rfl rfl rfl (lv_load (v := .int _ _) rfl rfl (ld_blk m1 rfl)) ?_
      refine xp_pure (i := 1) rfl (by kernel_rfl) (by kernel_rfl) rfl rfl rfl (pv_move (v := .pointer _) rfl rfl) ?_
      refine xp_pure (i := 2) rfl (by kernel_rfl) (by kernel_rfl) rfl rfl rfl (pv_nilCheck_p rfl rfl) ?_
      refine xp_pure (i := 3) rfl (by kernel_rfl) (by kernel_rfl) rfl rfl rfl (pv_fieldAddr rfl rfl) ?_
      refine xp_light (i := 4) rfl (by kernel_rfl) (by kernel_rfl) rfl rfl rfl (lv_load (v := .int _ _) rfl rfl (ld_blk md rfl)) ?_
      refine xp_pure (i := 5) rfl (by kernel_rfl) (by kernel_rfl) rfl rfl rfl (pv_sub rfl rfl rfl (fit_i64 (by omega))) ?_
      refine xp_dec (i := 6) rfl (by kernel_rfl) (by kernel_rfl) rfl rfl rfl (pv_gtr rfl rfl rfl) (fun h3_6 => ?_) (fun h3_6 => ?_)
      · skip
        refine xp_pure (i := 7) rfl (by kernel_rfl) (by kernel_rfl) rfl rfl rfl (pv_move (v := .bool _) rfl rfl) ?_
        refine xp_skip (i := 8) rfl (by kernel_rfl) (by kernel_rfl) rfl rfl rfl ?_
        refine xp_skip (i := 9) rfl (by kernel_rfl) (by kernel_rfl) rfl rfl rfl ?_
        refine xp_skip (i := 10) rfl (by kernel_rfl) (by kernel_rfl) rfl rfl rfl ?_
        refine xp_skip (i := 11) rfl (by kernel_rfl) (by kernel_rfl) rfl rfl rfl ?_
        refine xp_skip (i := 12) rfl (by kernel_rfl) (by kernel_rfl) rfl rfl rfl ?_
        refine xp_skip (i := 13) rfl (by kernel_rfl) (by kernel_rfl) rfl rfl rfl ?_
        refine xp_skip (i := 14) rfl (by kernel_rfl) (by kernel_rfl) rfl rfl rfl ?_
        refine xp_pure (i := 15) rfl (by kernel_rfl) (by kernel_rfl) rfl rfl rfl (pv_pick_t (v := .bool _) rfl rfl rfl) ?_
        refine xp_pure (i := 16) rfl (by kernel_rfl) (by kernel_rfl) rfl rfl rfl (pv_assign (v := .bool _) rfl rfl) ?_
        refine xp_done (by kernel_rfl) ?_
        refine xthen_normal ?_
        refine xc_cond_t rfl ?_
        refine xc_seq ?_
        refine xc_region ?_
        refine xl_pure rfl rfl rfl (pv_assign (v := .int _ _) rfl rfl) ?_
        refine xl_nil ?_
        refine xthen_normal ?_
        refine xc_ret ?_
        refine xblock_ret ?_
        refine xthen_ret ?_
        refine fin_ret (res1 (v := .int _ _) rfl rfl) ?_
        exact ⟨iv (by unfold learnE; (repeat' split) <;> omega), hX, by rw [show learnM d5 d6 p q = d5 by unfold learnM learnE; (repeat' split) <;> omega, show learnT d5 d6 p q = d6 by unfold learnT learnE; (repeat' split) <;> omega]; exact md⟩
      · skip
        refine xp_pure (i := 7) rfl (by kernel_rfl) (by kernel_rfl) rfl rfl rfl (pv_move (v := .bool _) rfl rfl) ?_
        refine xp_light (i := 8) rfl (by kernel_rfl) (by kernel_rfl) rfl rfl rfl (lv_load (v := .int _ _) rfl rfl (ld_blk m2 rfl)) ?_
        refine xp_pure (i := 9) rfl (by kernel_rfl) (by kernel_rfl) rfl rfl rfl (pv_move (v := .pointer _) rfl rfl) ?_
        refine xp_pure (i := 10) rfl (by kernel_rfl) (by kernel_rfl) rfl rfl rfl (pv_nilCheck_p rfl rfl) ?_
        refine xp_pure (i := 11) rfl (by kernel_rfl) (by kernel_rfl) rfl rfl rfl (pv_fieldAddr rfl rfl) ?_
        refine xp_light (i := 12) rfl (by kernel_rfl) (by kernel_rfl) rfl rfl rfl (lv_load (v := .int _ _) rfl rfl (ld_blk md rfl)) ?_
        refine xp_pure (i := 13) rfl (by kernel_rfl) (by kernel_rfl) rfl rfl rfl (pv_sub rfl rfl rfl (fit_i64 (by omega))) ?_
        refine xp_dec (i := 14) rfl (by kernel_rfl) (by kernel_rfl) rfl rfl rfl (pv_gtr rfl rfl rfl) (fun h3_14 => ?_) (fun h3_14 => ?_)
        · skip
          refine xp_pure (i := 15) rfl (by kernel_rfl) (by kernel_rfl) rfl rfl rfl (pv_pick_f (v := .bool _) rfl rfl rfl) ?_
          refine xp_pure (i := 16) rfl (by kernel_rfl) (by kernel_rfl) rfl rfl rfl (pv_assign (v := .bool _) rfl rfl) ?_
          refine xp_done (by kernel_rfl) ?_
          refine xthen_normal ?_
          refine xc_cond_t rfl ?_
          refine xc_seq ?_
          refine xc_region ?_
          refine xl_pure rfl rfl rfl (pv_assign (v := .int _ _) rfl rfl) ?_
          refine xl_nil ?_
          refine xthen_normal ?_
          refine xc_ret ?_
          refine xblock_ret ?_
          refine xthen_ret ?_
          refine fin_ret (res1 (v := .int _ _) rfl rfl) ?_
          exact ⟨iv (by unfold learnE; (repeat' split) <;> omega), hX, by rw [show learnM d5 d6 p q = d5 by unfold learnM learnE; (repeat' split) <;> omega, show learnT d5 d6 p q = d6 by unfold learnT learnE; (repeat' split) <;> omega]; exact md⟩
        · skip
          refine xp_pure (i := 15) rfl (by kernel_rfl) (by kernel_rfl) rfl rfl rfl (pv_pick_f (v := .bool _) rfl rfl rfl) ?_
          refine xp_pure (i := 16) rfl (by kernel_rfl) (by kernel_rfl) rfl rfl rfl (pv_assign (v := .bool _) rfl rfl) ?_
          refine xp_done (by kernel_rfl) ?_
          refine xthen_normal ?_
          refine xc_cond_f rfl ?_
          refine xc_skip ?_
          refine xblock_normal ?_
          refine xthen_normal ?_
          refine xc_seq ?_
          refine xp_start rfl (by repeat (first | with_reducible exact np_fin | with_reducible refine np_then ?_ | with_reducible refine np_block ?_)) (by kernel_rfl) ?_
          refine xp_pure (i := 0) rfl (by kernel_rfl) (by kernel_rfl) rfl rfl rfl (pv_move (v := .pointer _) rfl rfl) ?_
          refine xp_pure (i := 1) rfl (by kernel_rfl) (by kernel_rfl) rfl rfl rfl (pv_nilCheck_p rfl rfl) ?_
          refine xp_pure (i := 2) rfl (by kernel_rfl) (by kernel_rfl) rfl rfl rfl (pv_fieldAddr rfl rfl) ?_
          refine xp_light (i := 3) rfl (by kernel_rfl) (by kernel_rfl) rfl rfl rfl (lv_load (v := .int _ _) rfl rfl (ld_blk md rfl)) ?_
          refine xp_light (i := 4) rfl (by kernel_rfl) (by kernel_rfl) rfl rfl rfl (lv_load (v := .int _ _) rfl rfl (ld_blk m1 rfl)) ?_
          refine xp_pure (i := 5) rfl (by kernel_rfl) (by kernel_rfl) rfl rfl rfl (pv_add rfl rfl rfl (fit_i64 (by omega))) ?_
          refine xp_pure (i := 6) rfl (by kernel_rfl) (by kernel_rfl) rfl rfl rfl (pv_nilCheck_p rfl rfl) ?_
          refine xp_pure (i := 7) rfl (by kernel_rfl) (by kernel_rfl) rfl rfl rfl (pv_fieldAddr rfl rfl) ?_
          refine xp_heavy (i := 8) (by kernel_rfl) ?_
          refine xph_store rfl rfl rfl (hv_store (vs := [.int _ _]) rfl rfl rfl (md) rfl (Nat.le_of_ble_eq_true rfl) rfl) (pd (by kernel_rfl) (pd (by kernel_rfl) pn)) ?_
          rintro v5_8 H5_8 ⟨hU5_8, hZ5_8⟩
          have m1 := m1.off hU5_8.but (by first | exact nmd_1.symm | exact ⟨m1.ne md rfl⟩ | exact ⟨m1.ne md (by assumption)⟩ | exact ⟨Ne.symm (md.ne m1 (by assumption))⟩)
          have m2 := m2.off hU5_8.but (by first | exact nmd_2.symm | exact ⟨m2.ne md rfl⟩ | exact ⟨m2.ne md (by assumption)⟩ | exact ⟨Ne.symm (md.ne m2 (by assumption))⟩)
          have hX := hX.trans hU5_8.but
          have md := hU5_8.blk
          refine ⟨okn, ?_⟩
          refine xp_done (by kernel_rfl) ?_
          refine xthen_normal ?_
          refine xc_seq ?_
          refine xp_start rfl (by repeat (first | with_reducible exact np_fin | with_reducible refine np_then ?_ | with_reducible refine np_block ?_)) (by kernel_rfl) ?_
          refine xp_pure (i := 0) rfl (by kernel_rfl) (by kernel_rfl) rfl rfl rfl (pv_move (v := .pointer _) rfl rfl) ?_
          refine xp_pure (i := 1) rfl (by kernel_rfl) (by kernel_rfl) rfl rfl rfl (pv_nilCheck_p rfl rfl) ?_
          refine xp_pure (i := 2) rfl (by kernel_rfl) (by kernel_rfl) rfl rfl rfl (pv_fieldAddr rfl rfl) ?_
          refine xp_light (i := 3) rfl (by kernel_rfl) (by kernel_rfl) rfl rfl rfl (lv_load (v := .int _ _) rfl rfl (ld_blk md rfl)) ?_
          refine xp_light (i := 4) rfl (by kernel_rfl) (by kernel_rfl) rfl rfl rfl (lv_load (v := .int _ _) rfl rfl (ld_blk m2 rfl)) ?_
          refine xp_pure (i := 5) rfl (by kernel_rfl) (by kernel_rfl) rfl rfl rfl (pv_add rfl rfl rfl (fit_i64 (by omega))) ?_
          refine xp_pure (i := 6) rfl (by kernel_rfl) (by kernel_rfl) rfl rfl rfl (pv_nilCheck_p rfl rfl) ?_
          refine xp_pure (i := 7) rfl (by kernel_rfl) (by kernel_rfl) rfl rfl rfl (pv_fieldAddr rfl rfl) ?_
          refine xp_heavy (i := 8) (by kernel_rfl) ?_
          refine xph_store rfl rfl rfl (hv_store (vs := [.int _ _]) rfl rfl rfl (md) rfl (Nat.le_of_ble_eq_true rfl) rfl) (pd (by kernel_rfl) (pd (by kernel_rfl) pn)) ?_
          rintro v6_8 H6_8 ⟨hU6_8, hZ6_8⟩
          have m1 := m1.off hU6_8.but (by first | exact nmd_1.symm | exact ⟨m1.ne md rfl⟩ | exact ⟨m1.ne md (by assumption)⟩ | exact ⟨Ne.symm (md.ne m1 (by assumption))⟩)
          have m2 := m2.off hU6_8.but (by first | exact nmd_2.symm | exact ⟨m2.ne md rfl⟩ | exact ⟨m2.ne md (by assumption)⟩ | exact ⟨Ne.symm (md.ne m2 (by assumption))⟩)
          have hX := hX.trans hU6_8.but
          have md := hU6_8.blk
          refine ⟨okn, ?_⟩
          refine xp_done (by kernel_rfl) ?_
          refine xthen_normal ?_
          refine xc_seq ?_
          refine xc_region ?_
          refine xl_pure rfl rfl rfl (pv_assign (v := .int _ _) rfl rfl) ?_
          refine xl_nil ?_
          refine xthen_normal ?_
          refine xc_ret ?_
          refine fin_ret (res1 (v := .int _ _) rfl rfl) ?_
          exact ⟨iv (by unfold learnE; (repeat' split) <;> omega), hX, by rw [show learnM d5 d6 p q = d5 + p by unfold learnM learnE; (repeat' split) <;> omega, show learnT d5 d6 p q = d6 + q by unfold learnT learnE; (repeat' split) <;> omega]; exact md⟩
end Go.XG
