/-
  Walks of the seat's functions over the logic XG: each function, what it computes. Printed by a program out of wip/walks.py.
-/
import Derived.Test.YtecjgodbgfollaaI
import Derived.Test.YtecjgodbgfollaaLn
import Derived.Test.YtecjgodbgfollaaNa
import Derived.Test.YtecjgodbgfollaaNb
import Derived.Test.YtecjgodbgfollaaNc
import Derived.Test.YtecjgodbgfollaaNd
import Derived.Test.YtecjgodbgfollaaNf
import Derived.Test.YtecjgodbgfollaaNg
import Derived.Test.YtecjgodbgfollaaE
import Derived.Test.YtecjgodbgfollaaWa
import Derived.Test.YtecjgodbgfollaaWb
import Derived.Test.YtecjgodbgfollaaWc
import Derived.Test.YtecjgodbgfollaaWd
import Derived.Test.YtecjgodbgfollaaWe
import Derived.Test.YtecjgodbgfollaaWf
import Derived.Test.YtecjgodbgfollaaWg
import Derived.Test.YtecjgodbgfollaaWh
import Derived.Test.YtecjgodbgfollaaWi
import Derived.Test.YtecjgodbgfollaaWj
import Derived.Test.YtecjgodbgfollaaE2
import Derived.Test.YtecjgodbgfollaaWk
namespace Go.XG
open Go.Proofs Go.Pen
set_option maxRecDepth 4000
set_option maxHeartbeats 4000000
theorem c6 {O : Outer} {H : Heap}  :
    FnC Try.prog 6 #[] O H (fun v H' => v = .bool true ∧ Ext H H') := by
  refine fn_enter (A := []) Try.func6 rfl rfl ?_
  have hX := Ext.refl H
  refine xc_seq ?_
  refine xc_region ?_
  refine xl_pure rfl rfl rfl (pv_assign (v := .bool _) rfl rfl) ?_
  refine xl_nil ?_
  refine xthen_normal ?_
  refine xc_seq ?_
  refine xc_region ?_
  refine xl_pure rfl rfl rfl (pv_build_s (cs := [.slice _ _ _, .map _]) rfl rfl rfl) ?_
  refine xl_heavy rfl rfl rfl (hv_box rfl rfl) ?_
  rintro v1_1 H1_1 ⟨b1_1, rfl, hN1_1⟩
  have gb1_1 := hX.fresh hN1_1
  have hX := hX.trans hN1_1.ext
  have m1_1 := hN1_1.blk
  refine xl_pure rfl rfl rfl (pv_assign (v := .pointer _) rfl rfl) ?_
  refine xl_nil ?_
  refine xthen_normal ?_
  refine xc_seq ?_
  refine xc_region ?_
  refine xl_pure rfl rfl rfl (pv_move (v := .pointer _) rfl rfl) ?_
  refine xl_pure rfl rfl rfl (pv_build_s (cs := [.int _ _, .int _ _, .int _ _, .int _ _]) rfl rfl rfl) ?_
  refine xl_heavy rfl rfl rfl (hv_call (g := 8) rfl rfl (c8 (LogAt.new m1_1 gb1_1.le) 5 1 1 4) rfl) ?_
  rintro v2_2 H2_2 ⟨e2_2, l2_2, va2_2, vc2_2, mv2_2, rfl, hd2_2, hg2_2, hK2_2, hW2_2⟩
  have q2_2 := hd2_2.symm.trans (by decide +kernel : addL [] 5 1 1 4 = (0, [[5, 1, 1, 4]]))
  simp only [Prod.mk.injEq] at q2_2
  obtain ⟨rfl, rfl⟩ := q2_2
  have hX := hX.keepB hK2_2 (fun i hi => (((LogAt.new m1_1 gb1_1.le)).ft i hi).1) (Nat.le_refl _)
  refine xl_pure rfl rfl rfl (pv_assign (v := .int _ _) rfl rfl) ?_
  refine xl_nil ?_
  refine xthen_normal ?_
  refine xc_seq ?_
  refine xc_region ?_
  refine xl_pure rfl rfl rfl (pv_move (v := .pointer _) rfl rfl) ?_
  refine xl_pure rfl rfl rfl (pv_build_s (cs := [.int _ _, .int _ _, .int _ _, .int _ _]) rfl rfl rfl) ?_
  refine xl_heavy rfl rfl rfl (hv_call (g := 8) rfl rfl (c8 hg2_2 5 1 1 6) rfl) ?_
  rintro v3_2 H3_2 ⟨e3_2, l3_2, va3_2, vc3_2, mv3_2, rfl, hd3_2, hg3_2, hK3_2, hW3_2⟩
  have q3_2 := hd3_2.symm.trans (by decide +kernel : addL [[5, 1, 1, 4]] 5 1 1 6 = (9, [[5, 1, 1, 4]]))
  simp only [Prod.mk.injEq] at q3_2
  obtain ⟨rfl, rfl⟩ := q3_2
  have hX := hX.keepB hK3_2 (fun i hi => ((hg2_2).ft i hi).1) (Nat.le_refl _)
  refine xl_pure rfl rfl rfl (pv_assign (v := .int _ _) rfl rfl) ?_
  refine xl_nil ?_
  refine xthen_normal ?_
  refine xc_seq ?_
  refine xc_region ?_
  refine xl_pure rfl rfl rfl (pv_move (v := .pointer _) rfl rfl) ?_
  refine xl_pure rfl rfl rfl (pv_build_s (cs := [.int _ _, .int _ _, .int _ _, .int _ _]) rfl rfl rfl) ?_
  refine xl_heavy rfl rfl rfl (hv_call (g := 8) rfl rfl (c8 hg3_2 4 2 1 3) rfl) ?_
  rintro v4_2 H4_2 ⟨e4_2, l4_2, va4_2, vc4_2, mv4_2, rfl, hd4_2, hg4_2, hK4_2, hW4_2⟩
  have q4_2 := hd4_2.symm.trans (by decide +kernel : addL [[5, 1, 1, 4]] 4 2 1 3 = (1, [[5, 1, 1, 4]]))
  simp only [Prod.mk.injEq] at q4_2
  obtain ⟨rfl, rfl⟩ := q4_2
  have hX := hX.keepB hK4_2 (fun i hi => ((hg3_2).ft i hi).1) (Nat.le_refl _)
  refine xl_pure rfl rfl rfl (pv_assign (v := .int _ _) rfl rfl) ?_
  refine xl_nil ?_
  refine xthen_normal ?_
  refine xc_seq ?_
  refine xc_region ?_
  refine xl_pure rfl rfl rfl (pv_move (v := .pointer _) rfl rfl) ?_
  refine xl_heavy rfl rfl rfl (hv_call (g := 7) rfl rfl (c7 hg4_2 1 1) rfl) ?_
  rintro v5_1 H5_1 ⟨rfl, hE5_1⟩
  have hX := hX.trans hE5_1
  have hg4_2 := hg4_2.ext hE5_1
  refine xl_pure rfl rfl rfl (pv_move (v := .tuple _) rfl rfl) ?_
  refine xl_pure rfl rfl rfl (pv_extract (v := .agg _) rfl rfl rfl) ?_
  refine xl_pure rfl rfl rfl (pv_extract (v := .bool _) rfl rfl rfl) ?_
  refine xl_heavy rfl rfl rfl (hv_alloc rfl rfl) ?_
  rintro v5_5 H5_5 ⟨b5_5, rfl, hN5_5⟩
  have gb5_5 := hX.fresh hN5_5
  have hX := hX.trans hN5_5.ext
  have m5_5 := hN5_5.blk
  refine xl_store rfl rfl (hv_storeA (vs := ints (ofR [[5, 1, 1, 4]] 1 1)) rfl rfl rfl (m5_5) rfl (by rfl) rfl) ?_
  rintro v5_6 H5_6 ⟨hU5_6, hZ5_6⟩
  have hX := hX.upd hU5_6.but gb5_5
  have m5_5 := hU5_6.blk
  refine xl_pure rfl rfl rfl (pv_assign (v := .bool _) rfl rfl) ?_
  refine xl_nil ?_
  refine xthen_normal ?_
  refine xc_seq ?_
  have hgq := (hg4_2.ext hN5_5.ext).off hU5_6.but ((hg4_2).apart hN5_5)
  refine xc_region ?_
  refine xl_pure rfl rfl rfl (pv_move (v := .pointer _) rfl rfl) ?_
  refine xl_heavy rfl rfl rfl (hv_call (g := 9) rfl rfl (c9 hgq) rfl) ?_
  rintro v6_1 H6_1 ⟨a6_1, c6_1, rfl, hR6_1, hA6_1, hO6_1, hE6_1⟩
  have m5_5 := m5_5.ext hE6_1
  have hX := hX.trans hE6_1
  have hgq := hgq.ext hE6_1
  refine xl_heavy rfl rfl rfl (hv_call (g := 20) rfl rfl (c20 [[5, 1, 1, 4]] _ _ hR6_1 (by decide)) rfl) ?_
  rintro v6_2 H6_2 ⟨hc6_2, hE6_2⟩
  have m5_5 := m5_5.ext hE6_2
  have hX := hX.trans hE6_2
  have hgq := hgq.ext hE6_2
  obtain rfl : v6_2 = .tuple #[.string (bs [1, 5, 1, 1, 4]), .int .i64 0] := by
    rcases hc6_2 with ⟨h, _⟩ | ⟨_, h⟩
    · exact absurd h (by decide +kernel)
    · rw [h]; exact congrArg (fun x => Value.tuple #[.string (bs x), .int .i64 0]) (by decide +kernel : putB [[5, 1, 1, 4]] = [1, 5, 1, 1, 4])
  refine xl_pure rfl rfl rfl (pv_move (v := .tuple _) rfl rfl) ?_
  refine xl_pure rfl rfl rfl (pv_extract (v := .string (bs _)) rfl rfl rfl) ?_
  refine xl_pure rfl rfl rfl (pv_extract (v := .int _ _) rfl rfl rfl) ?_
  refine xl_pure rfl rfl rfl (pv_assign (v := .string (bs _)) rfl rfl) ?_
  refine xl_pure rfl rfl rfl (pv_assign (v := .int _ _) rfl rfl) ?_
  refine xl_nil ?_
  refine xthen_normal ?_
  refine xc_seq ?_
  refine xc_region ?_
  refine xl_pure rfl rfl rfl (pv_move (v := .int _ _) rfl rfl) ?_
  refine xl_dec rfl rfl rfl (pv_eql rfl rfl rfl) (fun h7_1 => ?_) (fun h7_1 => ?_)
  · skip
    refine xl_pure rfl rfl rfl (pv_move (v := .bool _) rfl rfl) ?_
    refine xl_pure rfl rfl rfl (pv_move (v := .int _ _) rfl rfl) ?_
    refine xl_dec rfl rfl rfl (pv_eql rfl rfl rfl) (fun h7_4 => ?_) (fun h7_4 => ?_)
    · skip
      refine xl_pure rfl rfl rfl (pv_pick_t (v := .bool _) rfl rfl rfl) ?_
      refine xl_pure rfl rfl rfl (pv_move (v := .bool _) rfl rfl) ?_
      refine xl_pure rfl rfl rfl (pv_move (v := .int _ _) rfl rfl) ?_
      refine xl_dec rfl rfl rfl (pv_eql rfl rfl rfl) (fun h7_8 => ?_) (fun h7_8 => ?_)
      · skip
        refine xl_pure rfl rfl rfl (pv_pick_t (v := .bool _) rfl rfl rfl) ?_
        refine xl_pure rfl rfl rfl (pv_move (v := .bool _) rfl rfl) ?_
        refine xl_pure rfl rfl rfl (pv_fieldAddr rfl rfl) ?_
        refine xl_light rfl rfl rfl (lv_load (v := .int _ _) rfl rfl (ld_blk m5_5 rfl)) ?_
        refine xl_dec rfl rfl rfl (pv_eql rfl rfl rfl) (fun h7_13 => ?_) (fun h7_13 => ?_)
        · skip
          refine xl_pure rfl rfl rfl (pv_pick_t (v := .bool _) rfl rfl rfl) ?_
          refine xl_pure rfl rfl rfl (pv_move (v := .bool _) rfl rfl) ?_
          refine xl_pure rfl rfl rfl (pv_move (v := .bool _) rfl rfl) ?_
          refine xl_pure rfl rfl rfl (pv_pick_t (v := .bool _) rfl rfl rfl) ?_
          refine xl_pure rfl rfl rfl (pv_move (v := .bool _) rfl rfl) ?_
          refine xl_pure rfl rfl rfl (pv_move (v := .pointer _) rfl rfl) ?_
          refine xl_heavy rfl rfl rfl (hv_call (g := 18) rfl rfl (c18 hgq 1 4) rfl) ?_
          rintro v7_20 H7_20 ⟨rfl, hE7_20⟩
          have m5_5 := m5_5.ext hE7_20
          have hX := hX.trans hE7_20
          refine xl_dec rfl rfl rfl (pv_eql rfl rfl rfl) (fun h7_21 => ?_) (fun h7_21 => ?_)
          · skip
            refine xl_pure rfl rfl rfl (pv_pick_t (v := .bool _) rfl rfl rfl) ?_
            refine xl_pure rfl rfl rfl (pv_move (v := .bool _) rfl rfl) ?_
            refine xl_pure rfl rfl rfl (pv_move (v := .string (bs _)) rfl rfl) ?_
            refine xl_dec rfl rfl rfl (pv_eql_s rfl rfl rfl) (fun h7_25 => ?_) (fun h7_25 => ?_)
            · skip
              refine xl_pure rfl rfl rfl (pv_pick_t (v := .bool _) rfl rfl rfl) ?_
              refine xl_pure rfl rfl rfl (pv_move (v := .bool _) rfl rfl) ?_
              refine xl_pure rfl rfl rfl (pv_move (v := .int _ _) rfl rfl) ?_
              refine xl_dec rfl rfl rfl (pv_eql rfl rfl rfl) (fun h7_29 => ?_) (fun h7_29 => ?_)
              · skip
                refine xl_pure rfl rfl rfl (pv_pick_t (v := .bool _) rfl rfl rfl) ?_
                refine xl_pure rfl rfl rfl (pv_assign (v := .bool _) rfl rfl) ?_
                refine xl_nil ?_
                refine xthen_normal ?_
                refine xc_ret ?_
                refine fin_ret (res1 (v := .bool _) rfl rfl) ?_
                exact ⟨rfl, hX⟩
              · exact absurd (by decide) h7_29
            · exact absurd rfl h7_25
          · exact absurd (by decide) h7_21
        · exact absurd (by decide) h7_13
      · exact absurd (by decide) h7_8
    · exact absurd (by decide) h7_4
  · exact absurd (by decide) h7_1
end Go.XG
