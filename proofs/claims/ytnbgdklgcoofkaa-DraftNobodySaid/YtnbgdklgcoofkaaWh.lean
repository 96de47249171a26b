/-
  Walks of the seat's functions over the logic XG: each function, what it computes. Printed by a program out of wip/walks.py.
-/
import Derived.Test.YtnbgdklgcoofkaaI
import Derived.Test.YtnbgdklgcoofkaaTo
import Derived.Test.YtnbgdklgcoofkaaTa
import Derived.Test.YtnbgdklgcoofkaaTb
import Derived.Test.YtnbgdklgcoofkaaTc
import Derived.Test.YtnbgdklgcoofkaaTd
import Derived.Test.YtnbgdklgcoofkaaP
import Derived.Test.YtnbgdklgcoofkaaWa
import Derived.Test.YtnbgdklgcoofkaaWb
import Derived.Test.YtnbgdklgcoofkaaWc
import Derived.Test.YtnbgdklgcoofkaaQ
import Derived.Test.YtnbgdklgcoofkaaWd
import Derived.Test.YtnbgdklgcoofkaaWe
import Derived.Test.YtnbgdklgcoofkaaWf
import Derived.Test.YtnbgdklgcoofkaaWg
namespace Go.XG
open Go.Proofs
set_option maxRecDepth 4000
set_option maxHeartbeats 4000000
theorem c4 {O : Outer} {H : Heap} (x0 x1 x2 x3 x4 x5 x6 x7 x8 x9 x10 x11 x12 : Int) :
    FnC Try.prog 4 #[.agg #[.int .i64 x0, .int .i64 x1, .int .i64 x2, .int .i64 x3, .int .i64 x4, .int .i64 x5, .int .i64 x6, .int .i64 x7, .int .i64 x8, .int .i64 x9, .int .i64 x10, .int .i64 x11, .int .i64 x12]] O H (fun v H' => v = .bool true ∧ Ext H H') := by
  refine fn_enter (A := [.agg #[.int .i64 x0, .int .i64 x1, .int .i64 x2, .int .i64 x3, .int .i64 x4, .int .i64 x5, .int .i64 x6, .int .i64 x7, .int .i64 x8, .int .i64 x9, .int .i64 x10, .int .i64 x11, .int .i64 x12]]) Try.func4 rfl rfl ?_
  have hX := Ext.refl H
  refine xc_seq ?_
  refine xc_region ?_
  refine xl_heavy rfl rfl rfl (hv_box rfl rfl) ?_
  rintro v0_0 H0_0 ⟨b0_0, rfl, hN0_0⟩
  have gb0_0 := hX.fresh hN0_0
  have hX := hX.trans hN0_0.ext
  have m0_0 := hN0_0.blk
  refine xl_pure rfl rfl rfl (pv_assign (v := .bool _) rfl rfl) ?_
  refine xl_nil ?_
  refine xthen_normal ?_
  refine xc_seq ?_
  refine xc_region ?_
  refine xl_pure rfl rfl rfl (pv_assign (v := .pointer _) rfl rfl) ?_
  refine xl_nil ?_
  refine xthen_normal ?_
  refine xc_seq ?_
  refine xc_region ?_
  refine xl_pure rfl rfl rfl (pv_move (v := .pointer _) rfl rfl) ?_
  refine xl_light rfl rfl rfl (lv_load (v := .agg _) rfl rfl (ld_blk_a m0_0 rfl rfl)) ?_
  refine xl_heavy rfl rfl rfl (hv_call (g := 12) rfl rfl (c12n [x0, x1, x2, x3, x4, x5, x6, x7, x8, x9, x10, x11, x12] rfl) rfl) ?_
  rintro v2_2 H2_2 ⟨va, vn, vc, rfl, hE2_2⟩
  have m0_0 := m0_0.ext hE2_2
  have hX := hX.trans hE2_2
  refine xl_pure rfl rfl rfl (pv_move (v := .tuple _) rfl rfl) ?_
  refine xl_pure rfl rfl rfl (pv_extract (v := .slice _ _ _) rfl rfl rfl) ?_
  refine xl_pure rfl rfl rfl (pv_extract (v := .int _ _) rfl rfl rfl) ?_
  refine xl_pure rfl rfl rfl (pv_assign (v := .slice _ _ _) rfl rfl) ?_
  refine xl_pure rfl rfl rfl (pv_assign (v := .int _ _) rfl rfl) ?_
  refine xl_nil ?_
  refine xthen_normal ?_
  refine xc_seq ?_
  refine xc_region ?_
  refine xl_pure rfl rfl rfl (pv_move (v := .pointer _) rfl rfl) ?_
  refine xl_heavy rfl rfl rfl (hv_call (g := 13) rfl rfl (c13n) rfl) ?_
  rintro v3_1 H3_1 ⟨b3_1, rfl, m3_1, hF3_1, hE3_1⟩
  have gb3_1 : Fresh H b3_1 := ⟨Nat.le_trans hX.size hF3_1.le⟩
  have nm0_0_3_1 : Apart b0_0 b3_1 := ⟨Nat.ne_of_lt (Nat.lt_of_lt_of_le m0_0.lt hF3_1.le)⟩
  have m0_0 := m0_0.ext hE3_1
  have hX := hX.trans hE3_1
  refine xl_pure rfl rfl rfl (pv_assign (v := .pointer _) rfl rfl) ?_
  refine xl_nil ?_
  refine xthen_normal ?_
  refine xc_seq ?_
  refine xc_region ?_
  refine xl_pure rfl rfl rfl (pv_move (v := .int _ _) rfl rfl) ?_
  refine xl_dec rfl rfl rfl (pv_eql rfl rfl rfl) (fun h4_1 => ?_) (fun h4_1 => ?_)
  · skip
    refine xl_pure rfl rfl rfl (pv_move (v := .bool _) rfl rfl) ?_
    refine xl_pure rfl rfl rfl (pv_move (v := .pointer _) rfl rfl) ?_
    refine xl_heavy rfl rfl rfl (hv_call (g := 14) rfl rfl (c14n) rfl) ?_
    rintro v4_4 H4_4 ⟨rfl, hE4_4⟩
    have m0_0 := m0_0.ext hE4_4
    have m3_1 := m3_1.ext hE4_4
    have hX := hX.trans hE4_4
    refine xl_pure rfl rfl rfl (pv_len_l rfl rfl) ?_
    refine xl_dec rfl rfl rfl (pv_eql rfl rfl rfl) (fun h4_6 => ?_) (fun h4_6 => ?_)
    · skip
      refine xl_pure rfl rfl rfl (pv_pick_t (v := .bool _) rfl rfl rfl) ?_
      refine xl_pure rfl rfl rfl (pv_move (v := .bool _) rfl rfl) ?_
      refine xl_pure rfl rfl rfl (pv_move (v := .pointer _) rfl rfl) ?_
      refine xl_heavy rfl rfl rfl (hv_call (g := 15) rfl rfl (c15n) rfl) ?_
      rintro v4_10 H4_10 ⟨rfl, rfl⟩
      refine xl_dec rfl rfl rfl (pv_eql rfl rfl rfl) (fun h4_11 => ?_) (fun h4_11 => ?_)
      · skip
        refine xl_pure rfl rfl rfl (pv_pick_t (v := .bool _) rfl rfl rfl) ?_
        refine xl_pure rfl rfl rfl (pv_move (v := .bool _) rfl rfl) ?_
        refine xl_pure rfl rfl rfl (pv_move (v := .pointer _) rfl rfl) ?_
        refine xl_pure rfl rfl rfl (pv_neq_pn rfl rfl rfl) ?_
        refine xl_pure rfl rfl rfl (pv_pick_t (v := .bool _) rfl rfl rfl) ?_
        refine xl_pure rfl rfl rfl (pv_move (v := .bool _) rfl rfl) ?_
        refine xl_pure rfl rfl rfl (pv_move (v := .pointer _) rfl rfl) ?_
        refine xl_heavy rfl rfl rfl (hv_call (g := 15) rfl rfl (c15 (g := 0) m3_1 (by decide) (by decide)) rfl) ?_
        rintro v4_19 H4_19 ⟨rfl, rfl⟩
        refine xl_dec rfl rfl rfl (pv_eql rfl rfl rfl) (fun h4_20 => ?_) (fun h4_20 => ?_)
        · skip
          refine xl_pure rfl rfl rfl (pv_pick_t (v := .bool _) rfl rfl rfl) ?_
          refine xl_pure rfl rfl rfl (pv_move (v := .bool _) rfl rfl) ?_
          refine xl_pure rfl rfl rfl (pv_move (v := .pointer _) rfl rfl) ?_
          refine xl_heavy rfl rfl rfl (hv_call (g := 14) rfl rfl (c14 (l := []) m3_1 RowsT.nil (Nat.le_refl _) (fun _ => rfl) (by decide) goo_nil) rfl) ?_
          rintro v4_24 H4_24 ⟨a4_24, c4_24, rfl, hQ4_24, hE4_24⟩
          have m0_0 := m0_0.ext hE4_24
          have m3_1 := m3_1.ext hE4_24
          have hX := hX.trans hE4_24
          refine xl_pure rfl rfl rfl (pv_len_l rfl rfl) ?_
          refine xl_dec rfl rfl rfl (pv_eql rfl rfl rfl) (fun h4_26 => ?_) (fun h4_26 => ?_)
          · skip
            refine xl_pure rfl rfl rfl (pv_pick_t (v := .bool _) rfl rfl rfl) ?_
            refine xl_pure rfl rfl rfl (pv_move (v := .bool _) rfl rfl) ?_
            refine xl_heavy rfl rfl rfl (hv_call (g := 7) rfl rfl (c7) rfl) ?_
            rintro v4_29 H4_29 ⟨rfl, hE4_29⟩
            have m0_0 := m0_0.ext hE4_29
            have m3_1 := m3_1.ext hE4_29
            have hQ4_24 := hQ4_24.ext hE4_29
            have hX := hX.trans hE4_29
            refine xl_pure rfl rfl rfl (pv_pick_t (v := .bool _) rfl rfl rfl) ?_
            refine xl_pure rfl rfl rfl (pv_assign (v := .bool _) rfl rfl) ?_
            refine xl_nil ?_
            refine xthen_normal ?_
            refine xc_ret ?_
            refine fin_ret (res1 (v := .bool _) rfl rfl) ?_
            exact ⟨rfl, hX⟩
          · exact absurd rfl h4_26
        · exact absurd rfl h4_20
      · exact absurd rfl h4_11
    · exact absurd rfl h4_6
  · exact absurd rfl h4_1
end Go.XG
