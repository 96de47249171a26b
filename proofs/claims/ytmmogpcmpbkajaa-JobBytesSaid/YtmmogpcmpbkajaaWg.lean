/-
  Walks of the seat's functions over the logic XG: each function, what it computes. Printed by a program out of wip/walks.py.
-/
import Derived.Test.YtmmogpcmpbkajaaI
import Derived.Test.YtmmogpcmpbkajaaP
import Derived.Test.YtmmogpcmpbkajaaL
import Derived.Test.YtmmogpcmpbkajaaWa
import Derived.Test.YtmmogpcmpbkajaaWb
import Derived.Test.YtmmogpcmpbkajaaWc
import Derived.Test.YtmmogpcmpbkajaaWd
import Derived.Test.YtmmogpcmpbkajaaWe
import Derived.Test.YtmmogpcmpbkajaaWf
namespace Go.XG
open Go.Proofs
set_option maxRecDepth 4000
set_option maxHeartbeats 4000000
theorem c12 {O : Outer} {H : Heap} (j : J) (a : Option Addr) (c : Nat) (what now : Int) (hs : Stks H a j.needs) (hl : j.needs.length < 1099511627776) :
    FnC Try.prog 12 #[.agg (jcs j a c).toArray, .int .i64 what, .int .i64 now] O H (fun v H' => ∃ e j' a' c', v = .tuple #[jv j' a' c', .int .i64 e] ∧ (e, j') = doJ j what now ∧ (j'.needs.length = 0 ∨ j'.needs = j.needs ∧ a' = a) ∧ Ext H H') := by
  refine fn_enter (A := [.agg (jcs j a c).toArray, .int .i64 what, .int .i64 now]) Try.func12 rfl rfl ?_
  refine xc_seq ?_
  refine xc_region ?_
  refine xl_heavy rfl rfl rfl (hv_box rfl rfl) ?_
  rintro v0_0 H0_0 ⟨b0_0, rfl, hN0_0⟩
  have hr := hN0_0.blk
  have hX := hN0_0.ext
  have hge := hN0_0.ge
  refine xl_heavy rfl rfl rfl (hv_alloc rfl rfl) ?_
  rintro v0_1 H0_1 ⟨b0_1, rfl, hN0_1⟩
  have hne := hr.fresh hN0_1.ge
  have hr := hr.ext hN0_1.ext
  have hgz := Nat.le_trans hX.size hN0_1.ge
  have hX := hX.trans hN0_1.ext
  have hz := hN0_1.blk
  refine xl_pure rfl rfl rfl (pv_assign (v := .int _ _) rfl rfl) ?_
  refine xl_nil ?_
  refine xthen_normal ?_
  refine xc_cut (τ := Unit) (fun _ => [(1, .int .i64 what), (2, .int .i64 now), (3, .pointer (some ⟨b0_0, 0, none⟩)), (6, .pointer (some ⟨b0_1, 0, none⟩))]) (fun _ H' => Good j ∧ (what = 1 ∨ what = 2 ∨ what = 4 → 0 ≤ now ∧ now ≤ 1099511627776) ∧ Blk H' b0_0 (jcs j a c) 26 ∧ Blk H' b0_1 (jcs J0 none 0) 26 ∧ Ext H H') ?_ ?_
  · skip
    refine xc_seq ?_
    refine xc_region ?_
    refine xl_light rfl rfl rfl (lv_load (v := .agg _) rfl rfl (by first | exact ld_blk hr rfl | exact hx | exact hz | exact ld_blk_a hr rfl rfl | exact ld_blk_a hx rfl rfl)) ?_
    refine xl_heavy rfl rfl rfl (hv_call (g := 13) rfl rfl (c13 j a c (hs.ext hX) hl) rfl) ?_
    rintro v1_1 H1_1 ⟨e1_1, rfl, hg1_1, hE1_1⟩
    have hX := hX.trans hE1_1
    have hr := hr.ext hE1_1
    have hz := hz.ext hE1_1
    rcases hg1_1 with ⟨hg1_1, rfl⟩ | ⟨hg1_1, rfl⟩
    · skip
      refine xl_ndec rfl rfl rfl (pv_neq rfl rfl rfl) (fun h1_2 => ?_) (fun h1_2 => ?_)
      · skip
        refine xl_pure rfl rfl rfl (pv_move (v := .bool _) rfl rfl) ?_
        refine xl_pure rfl rfl rfl (pv_move (v := .int _ _) rfl rfl) ?_
        refine xl_dec rfl rfl rfl (pv_geq rfl rfl rfl) (fun h1_5 => ?_) (fun h1_5 => ?_)
        · skip
          refine xl_pure rfl rfl rfl (pv_move (v := .bool _) rfl rfl) ?_
          refine xl_pure rfl rfl rfl (pv_move (v := .int _ _) rfl rfl) ?_
          refine xl_dec rfl rfl rfl (pv_leq rfl rfl rfl) (fun h1_8 => ?_) (fun h1_8 => ?_)
          · skip
            refine xl_pure rfl rfl rfl (pv_pick_t (v := .bool _) rfl rfl rfl) ?_
            refine xl_pure rfl rfl rfl (pv_move (v := .bool _) rfl rfl) ?_
            refine xl_pure rfl rfl rfl (pv_move (v := .int _ _) rfl rfl) ?_
            refine xl_ndec rfl rfl rfl (pv_neq rfl rfl rfl) (fun h1_12 => ?_) (fun h1_12 => ?_)
            · skip
              refine xl_pure rfl rfl rfl (pv_pick_t (v := .bool _) rfl rfl rfl) ?_
              refine xl_pure rfl rfl rfl (pv_move (v := .bool _) rfl rfl) ?_
              refine xl_skip rfl rfl rfl ?_
              refine xl_skip rfl rfl rfl ?_
              refine xl_skip rfl rfl rfl ?_
              refine xl_pure rfl rfl rfl (pv_pick_f (v := .bool _) rfl rfl rfl) ?_
              refine xl_pure rfl rfl rfl (pv_pick_f (v := .bool _) rfl rfl rfl) ?_
              refine xl_nil ?_
              refine xthen_normal ?_
              refine xc_cond_f rfl ?_
              refine xc_skip ?_
              refine xthen_normal ?_
              exact ⟨(), ⟨rfl, rfl, rfl, rfl, trivial⟩, hg1_1, by first | exact fun _ => hb1_16 | (intro h; omega), hr, hz, hX⟩
            · skip
              refine xl_pure rfl rfl rfl (pv_pick_t (v := .bool _) rfl rfl rfl) ?_
              refine xl_pure rfl rfl rfl (pv_move (v := .bool _) rfl rfl) ?_
              refine xl_pure rfl rfl rfl (pv_move (v := .int _ _) rfl rfl) ?_
              refine xl_heavy rfl rfl rfl (hv_call (g := 31) rfl rfl (c31 _ _ _) rfl) ?_
              rintro v1_16 H1_16 ⟨r1_16, rfl, hb1_16, rfl⟩
              cases r1_16
              · skip
                replace hb1_16 := mt hb1_16.2 (by decide)
                refine xl_pure rfl rfl rfl (pv_not rfl rfl) ?_
                refine xl_pure rfl rfl rfl (pv_pick_t (v := .bool _) rfl rfl rfl) ?_
                refine xl_pure rfl rfl rfl (pv_pick_f (v := .bool _) rfl rfl rfl) ?_
                refine xl_nil ?_
                refine xthen_normal ?_
                refine xc_cond_t rfl ?_
                refine xc_seq ?_
                refine xc_region ?_
                refine xl_pure rfl rfl rfl (pv_build_s (cs := [.int _ _, .int _ _, .int _ _, .int _ _, .int _ _, .int _ _, .int _ _, .int _ _, .int _ _, .int _ _, .int _ _, .slice _ _ _, .int _ _, .int _ _, .int _ _, .int _ _]) rfl rfl rfl) ?_
                refine xl_store rfl rfl (hv_storeA (vs := [.int _ _, .int _ _, .int _ _, .int _ _, .int _ _, .int _ _, .int _ _, .int _ _, .int _ _, .int _ _, .int _ _, .slice _ _ _, .int _ _, .int _ _, .int _ _, .int _ _]) rfl rfl rfl (by first | exact ld_blk hr rfl | exact hx | exact hz | exact ld_blk_a hr rfl rfl | exact ld_blk_a hx rfl rfl) rfl (by rfl) rfl) ?_
                rintro v2_1 H2_1 ⟨hU2_1, hZ2_1⟩
                have hX := hX.ofBut hU2_1.but hgz
                have hz := hU2_1.blk
                refine xl_pure rfl rfl rfl (pv_assign (v := .int _ _) rfl rfl) ?_
                refine xl_nil ?_
                refine xthen_normal ?_
                refine xc_ret ?_
                refine xthen_ret ?_
                refine fin_ret (resv2 rfl (rv_c (ty := 26) rfl (ld_blk_a hz rfl rfl)) (rv_t (v := .int _ _) rfl)) ?_
                first
                  | exact ⟨1, J0, none, 0, rfl, (do_bad (.inl hg1_1)).symm, .inl rfl, hX⟩
                  | exact ⟨1, J0, none, 0, rfl, (do_bad (.inr ⟨by omega, hb1_16⟩)).symm, .inl rfl, hX⟩
              · skip
                replace hb1_16 := hb1_16.1 rfl
                refine xl_pure rfl rfl rfl (pv_not rfl rfl) ?_
                refine xl_pure rfl rfl rfl (pv_pick_t (v := .bool _) rfl rfl rfl) ?_
                refine xl_pure rfl rfl rfl (pv_pick_f (v := .bool _) rfl rfl rfl) ?_
                refine xl_nil ?_
                refine xthen_normal ?_
                refine xc_cond_f rfl ?_
                refine xc_skip ?_
                refine xthen_normal ?_
                exact ⟨(), ⟨rfl, rfl, rfl, rfl, trivial⟩, hg1_1, by first | exact fun _ => hb1_16 | (intro h; omega), hr, hz, hX⟩
          · skip
            refine xl_pure rfl rfl rfl (pv_pick_t (v := .bool _) rfl rfl rfl) ?_
            refine xl_pure rfl rfl rfl (pv_move (v := .bool _) rfl rfl) ?_
            refine xl_skip rfl rfl rfl ?_
            refine xl_skip rfl rfl rfl ?_
            refine xl_pure rfl rfl rfl (pv_pick_f (v := .bool _) rfl rfl rfl) ?_
            refine xl_pure rfl rfl rfl (pv_move (v := .bool _) rfl rfl) ?_
            refine xl_skip rfl rfl rfl ?_
            refine xl_skip rfl rfl rfl ?_
            refine xl_skip rfl rfl rfl ?_
            refine xl_pure rfl rfl rfl (pv_pick_f (v := .bool _) rfl rfl rfl) ?_
            refine xl_pure rfl rfl rfl (pv_pick_f (v := .bool _) rfl rfl rfl) ?_
            refine xl_nil ?_
            refine xthen_normal ?_
            refine xc_cond_f rfl ?_
            refine xc_skip ?_
            refine xthen_normal ?_
            exact ⟨(), ⟨rfl, rfl, rfl, rfl, trivial⟩, hg1_1, by first | exact fun _ => hb1_16 | (intro h; omega), hr, hz, hX⟩
        · skip
          refine xl_pure rfl rfl rfl (pv_move (v := .bool _) rfl rfl) ?_
          refine xl_skip rfl rfl rfl ?_
          refine xl_skip rfl rfl rfl ?_
          refine xl_pure rfl rfl rfl (pv_pick_f (v := .bool _) rfl rfl rfl) ?_
          refine xl_pure rfl rfl rfl (pv_move (v := .bool _) rfl rfl) ?_
          refine xl_skip rfl rfl rfl ?_
          refine xl_skip rfl rfl rfl ?_
          refine xl_pure rfl rfl rfl (pv_pick_f (v := .bool _) rfl rfl rfl) ?_
          refine xl_pure rfl rfl rfl (pv_move (v := .bool _) rfl rfl) ?_
          refine xl_skip rfl rfl rfl ?_
          refine xl_skip rfl rfl rfl ?_
          refine xl_skip rfl rfl rfl ?_
          refine xl_pure rfl rfl rfl (pv_pick_f (v := .bool _) rfl rfl rfl) ?_
          refine xl_pure rfl rfl rfl (pv_pick_f (v := .bool _) rfl rfl rfl) ?_
          refine xl_nil ?_
          refine xthen_normal ?_
          refine xc_cond_f rfl ?_
          refine xc_skip ?_
          refine xthen_normal ?_
          exact ⟨(), ⟨rfl, rfl, rfl, rfl, trivial⟩, hg1_1, by first | exact fun _ => hb1_16 | (intro h; omega), hr, hz, hX⟩
      · exact absurd (by decide) h1_2
    · skip
      refine xl_ndec rfl rfl rfl (pv_neq rfl rfl rfl) (fun h1_2 => ?_) (fun h1_2 => ?_)
      · exact absurd h1_2 (by decide)
      · skip
        refine xl_pure rfl rfl rfl (pv_move (v := .bool _) rfl rfl) ?_
        refine xl_skip rfl rfl rfl ?_
        refine xl_skip rfl rfl rfl ?_
        refine xl_skip rfl rfl rfl ?_
        refine xl_skip rfl rfl rfl ?_
        refine xl_skip rfl rfl rfl ?_
        refine xl_skip rfl rfl rfl ?_
        refine xl_skip rfl rfl rfl ?_
        refine xl_skip rfl rfl rfl ?_
        refine xl_skip rfl rfl rfl ?_
        refine xl_skip rfl rfl rfl ?_
        refine xl_skip rfl rfl rfl ?_
        refine xl_skip rfl rfl rfl ?_
        refine xl_skip rfl rfl rfl ?_
        refine xl_skip rfl rfl rfl ?_
        refine xl_skip rfl rfl rfl ?_
        refine xl_pure rfl rfl rfl (pv_pick_t (v := .bool _) rfl rfl rfl) ?_
        refine xl_nil ?_
        refine xthen_normal ?_
        refine xc_cond_t rfl ?_
        refine xc_seq ?_
        refine xc_region ?_
        refine xl_pure rfl rfl rfl (pv_build_s (cs := [.int _ _, .int _ _, .int _ _, .int _ _, .int _ _, .int _ _, .int _ _, .int _ _, .int _ _, .int _ _, .int _ _, .slice _ _ _, .int _ _, .int _ _, .int _ _, .int _ _]) rfl rfl rfl) ?_
        refine xl_store rfl rfl (hv_storeA (vs := [.int _ _, .int _ _, .int _ _, .int _ _, .int _ _, .int _ _, .int _ _, .int _ _, .int _ _, .int _ _, .int _ _, .slice _ _ _, .int _ _, .int _ _, .int _ _, .int _ _]) rfl rfl rfl (by first | exact ld_blk hr rfl | exact hx | exact hz | exact ld_blk_a hr rfl rfl | exact ld_blk_a hx rfl rfl) rfl (by rfl) rfl) ?_
        rintro v2_1 H2_1 ⟨hU2_1, hZ2_1⟩
        have hX := hX.ofBut hU2_1.but hgz
        have hz := hU2_1.blk
        refine xl_pure rfl rfl rfl (pv_assign (v := .int _ _) rfl rfl) ?_
        refine xl_nil ?_
        refine xthen_normal ?_
        refine xc_ret ?_
        refine xthen_ret ?_
        refine fin_ret (resv2 rfl (rv_c (ty := 26) rfl (ld_blk_a hz rfl rfl)) (rv_t (v := .int _ _) rfl)) ?_
        first
          | exact ⟨1, J0, none, 0, rfl, (do_bad (.inl hg1_1)).symm, .inl rfl, hX⟩
          | exact ⟨1, J0, none, 0, rfl, (do_bad (.inr ⟨by omega, hb1_16⟩)).symm, .inl rfl, hX⟩
  · intro σ
    clear hr hz hX
    rintro _ Hm ⟨hg, htm, hr, hz, hX⟩
    have hst : Stands j := hg.2.2.2.2
    have hsx : Six j := hg.1
    unfold Stands at hst
    unfold Six at hsx
    refine xc_seq ?_
    refine xc_region ?_
    refine xl_pure rfl rfl rfl (pv_assign (v := .bool _) rfl rfl) ?_
    refine xl_nil ?_
    refine xthen_normal ?_
    refine xc_seq ?_
    refine xc_region ?_
    refine xl_light rfl rfl rfl (lv_load (v := .agg _) rfl rfl (by first | exact ld_blk hr rfl | exact hx | exact hz | exact ld_blk_a hr rfl rfl | exact ld_blk_a hx rfl rfl)) ?_
    refine xl_heavy rfl rfl rfl (hv_alloc rfl rfl) ?_
    rintro v4_1 H4_1 ⟨b4_1, rfl, hN4_1⟩
    have hnr := hr.fresh hN4_1.ge
    have hnz := hz.fresh hN4_1.ge
    have hr := hr.ext hN4_1.ext
    have hz := hz.ext hN4_1.ext
    have hgx := Nat.le_trans hX.size hN4_1.ge
    have hX := hX.trans hN4_1.ext
    have hx := hN4_1.blk
    refine xl_store rfl rfl (hv_storeA (vs := [.int _ _, .int _ _, .int _ _, .int _ _, .int _ _, .int _ _, .int _ _, .int _ _, .int _ _, .int _ _, .int _ _, .slice _ _ _, .int _ _, .int _ _, .int _ _, .int _ _]) rfl rfl rfl (by first | exact ld_blk hr rfl | exact hx | exact hz | exact ld_blk_a hr rfl rfl | exact ld_blk_a hx rfl rfl) rfl (by rfl) rfl) ?_
    rintro v4_2 H4_2 ⟨hU4_2, hZ4_2⟩
    have hx := hU4_2.blk
    have hX := hX.ofBut hU4_2.but hgx
    have hr := hr.but hU4_2.but hnr
    have hz := hz.but hU4_2.but hnz
    refine xl_nil ?_
    refine xthen_normal ?_
    refine xc_seq ?_
    refine xc_seq ?_
    refine xc_region ?_
    refine xl_pure rfl rfl rfl (pv_move (v := .int _ _) rfl rfl) ?_
    refine xl_nil ?_
    refine xthen_normal ?_
    refine xc_block ?_
    refine xc_seq ?_
    refine xc_region ?_
    refine xl_dec rfl rfl rfl (pv_eql rfl rfl rfl) (fun h11_0 => ?_) (fun h11_0 => ?_)
    · skip
      refine xl_pure rfl rfl rfl (pv_assign (v := .bool _) rfl rfl) ?_
      refine xl_nil ?_
      refine xthen_normal ?_
      refine xc_cond_t rfl ?_
      refine xc_seq ?_
      have ha : actB j what now = actB j 1 now := by rw [h11_0]
      refine xc_region ?_
      refine xl_pure rfl rfl rfl (pv_fieldAddr rfl rfl) ?_
      refine xl_light rfl rfl rfl (lv_load (v := .int _ _) rfl rfl (by first | exact ld_blk hr rfl | exact hx | exact hz | exact ld_blk_a hr rfl rfl | exact ld_blk_a hx rfl rfl)) ?_
      refine xl_dec rfl rfl rfl (pv_eql rfl rfl rfl) (fun h12_2 => ?_) (fun h12_2 => ?_)
      · skip
        refine xl_pure rfl rfl rfl (pv_assign (v := .bool _) rfl rfl) ?_
        refine xl_nil ?_
        refine xthen_normal ?_
        refine xc_seq ?_
        refine xc_region ?_
        refine xl_pure rfl rfl rfl (pv_fieldAddr rfl rfl) ?_
        refine xl_store rfl rfl (hv_store (vs := [.int _ _]) rfl rfl rfl (by first | exact ld_blk hr rfl | exact hx | exact hz | exact ld_blk_a hr rfl rfl | exact ld_blk_a hx rfl rfl) rfl (Nat.le_of_ble_eq_true rfl) rfl) ?_
        rintro v13_1 H13_1 ⟨hU13_1, hZ13_1⟩
        have hx := hU13_1.blk
        have hX := hX.ofBut hU13_1.but hgx
        have hr := hr.but hU13_1.but hnr
        have hz := hz.but hU13_1.but hnz
        refine xl_nil ?_
        refine xthen_normal ?_
        refine xc_seq ?_
        refine xc_region ?_
        refine xl_pure rfl rfl rfl (pv_move (v := .int _ _) rfl rfl) ?_
        refine xl_pure rfl rfl rfl (pv_fieldAddr rfl rfl) ?_
        refine xl_store rfl rfl (hv_store (vs := [.int _ _]) rfl rfl rfl (by first | exact ld_blk hr rfl | exact hx | exact hz | exact ld_blk_a hr rfl rfl | exact ld_blk_a hx rfl rfl) rfl (Nat.le_of_ble_eq_true rfl) rfl) ?_
        rintro v14_2 H14_2 ⟨hU14_2, hZ14_2⟩
        have hx := hU14_2.blk
        have hX := hX.ofBut hU14_2.but hgx
        have hr := hr.but hU14_2.but hnr
        have hz := hz.but hU14_2.but hnz
        refine xl_nil ?_
        refine xthen_normal ?_
        refine xc_region ?_
        refine xl_pure rfl rfl rfl (pv_move (v := .int _ _) rfl rfl) ?_
        refine xl_pure rfl rfl rfl (pv_fieldAddr rfl rfl) ?_
        refine xl_light rfl rfl rfl (lv_load (v := .int _ _) rfl rfl (by first | exact ld_blk hr rfl | exact hx | exact hz | exact ld_blk_a hr rfl rfl | exact ld_blk_a hx rfl rfl)) ?_
        refine xl_pure rfl rfl rfl (pv_add rfl rfl rfl (fit_i64 (by omega))) ?_
        refine xl_pure rfl rfl rfl (pv_fieldAddr rfl rfl) ?_
        refine xl_store rfl rfl (hv_store (vs := [.int _ _]) rfl rfl rfl (by first | exact ld_blk hr rfl | exact hx | exact hz | exact ld_blk_a hr rfl rfl | exact ld_blk_a hx rfl rfl) rfl (Nat.le_of_ble_eq_true rfl) rfl) ?_
        rintro v15_5 H15_5 ⟨hU15_5, hZ15_5⟩
        have hx := hU15_5.blk
        have hX := hX.ofBut hU15_5.but hgx
        have hr := hr.but hU15_5.but hnr
        have hz := hz.but hU15_5.but hnz
        refine xl_nil ?_
        refine xblock_normal ?_
        refine xthen_normal ?_
        refine xc_seq ?_
        refine xc_seq ?_
        refine xc_region ?_
        refine xl_pure rfl rfl rfl (pv_move (v := .bool _) rfl rfl) ?_
        refine xl_pure rfl rfl rfl (pv_not rfl rfl) ?_
        refine xl_nil ?_
        refine xthen_normal ?_
        refine xc_cond_f rfl ?_
        refine xc_skip ?_
        refine xthen_normal ?_
        refine xc_seq ?_
        refine xc_region ?_
        refine xl_light rfl rfl rfl (lv_load (v := .agg _) rfl rfl (by first | exact ld_blk hr rfl | exact hx | exact hz | exact ld_blk_a hr rfl rfl | exact ld_blk_a hx rfl rfl)) ?_
        refine xl_store rfl rfl (hv_storeA (vs := [.int _ _, .int _ _, .int _ _, .int _ _, .int _ _, .int _ _, .int _ _, .int _ _, .int _ _, .int _ _, .int _ _, .slice _ _ _, .int _ _, .int _ _, .int _ _, .int _ _]) rfl rfl rfl (by first | exact ld_blk hr rfl | exact hx | exact hz | exact ld_blk_a hr rfl rfl | exact ld_blk_a hx rfl rfl) rfl (by rfl) rfl) ?_
        rintro v34_1 H34_1 ⟨hU34_1, hZ34_1⟩
        have hX := hX.ofBut hU34_1.but hgz
        have hz := hU34_1.blk
        refine xl_pure rfl rfl rfl (pv_assign (v := .int _ _) rfl rfl) ?_
        refine xl_nil ?_
        refine xthen_normal ?_
        refine xc_ret ?_
        refine fin_ret (resv2 rfl (rv_c (ty := 26) rfl (ld_blk_a hz rfl rfl)) (rv_t (v := .int _ _) rfl)) ?_
        exact ⟨0, (actB j what now).2, a, c, by rw [ha]; rfl, (do_ok hg htm (by rw [ha]; exact decide_eq_true (by omega))).symm, .inr ⟨act_needs _ _ _, rfl⟩, hX⟩
      · skip
        refine xl_pure rfl rfl rfl (pv_assign (v := .bool _) rfl rfl) ?_
        refine xl_nil ?_
        refine xthen_normal ?_
        refine xc_seq ?_
        refine xc_region ?_
        refine xl_pure rfl rfl rfl (pv_fieldAddr rfl rfl) ?_
        refine xl_store rfl rfl (hv_store (vs := [.int _ _]) rfl rfl rfl (by first | exact ld_blk hr rfl | exact hx | exact hz | exact ld_blk_a hr rfl rfl | exact ld_blk_a hx rfl rfl) rfl (Nat.le_of_ble_eq_true rfl) rfl) ?_
        rintro v13_1 H13_1 ⟨hU13_1, hZ13_1⟩
        have hx := hU13_1.blk
        have hX := hX.ofBut hU13_1.but hgx
        have hr := hr.but hU13_1.but hnr
        have hz := hz.but hU13_1.but hnz
        refine xl_nil ?_
        refine xthen_normal ?_
        refine xc_seq ?_
        refine xc_region ?_
        refine xl_pure rfl rfl rfl (pv_move (v := .int _ _) rfl rfl) ?_
        refine xl_pure rfl rfl rfl (pv_fieldAddr rfl rfl) ?_
        refine xl_store rfl rfl (hv_store (vs := [.int _ _]) rfl rfl rfl (by first | exact ld_blk hr rfl | exact hx | exact hz | exact ld_blk_a hr rfl rfl | exact ld_blk_a hx rfl rfl) rfl (Nat.le_of_ble_eq_true rfl) rfl) ?_
        rintro v14_2 H14_2 ⟨hU14_2, hZ14_2⟩
        have hx := hU14_2.blk
        have hX := hX.ofBut hU14_2.but hgx
        have hr := hr.but hU14_2.but hnr
        have hz := hz.but hU14_2.but hnz
        refine xl_nil ?_
        refine xthen_normal ?_
        refine xc_region ?_
        refine xl_pure rfl rfl rfl (pv_move (v := .int _ _) rfl rfl) ?_
        refine xl_pure rfl rfl rfl (pv_fieldAddr rfl rfl) ?_
        refine xl_light rfl rfl rfl (lv_load (v := .int _ _) rfl rfl (by first | exact ld_blk hr rfl | exact hx | exact hz | exact ld_blk_a hr rfl rfl | exact ld_blk_a hx rfl rfl)) ?_
        refine xl_pure rfl rfl rfl (pv_add rfl rfl rfl (fit_i64 (by omega))) ?_
        refine xl_pure rfl rfl rfl (pv_fieldAddr rfl rfl) ?_
        refine xl_store rfl rfl (hv_store (vs := [.int _ _]) rfl rfl rfl (by first | exact ld_blk hr rfl | exact hx | exact hz | exact ld_blk_a hr rfl rfl | exact ld_blk_a hx rfl rfl) rfl (Nat.le_of_ble_eq_true rfl) rfl) ?_
        rintro v15_5 H15_5 ⟨hU15_5, hZ15_5⟩
        have hx := hU15_5.blk
        have hX := hX.ofBut hU15_5.but hgx
        have hr := hr.but hU15_5.but hnr
        have hz := hz.but hU15_5.but hnz
        refine xl_nil ?_
        refine xblock_normal ?_
        refine xthen_normal ?_
        refine xc_seq ?_
        refine xc_seq ?_
        refine xc_region ?_
        refine xl_pure rfl rfl rfl (pv_move (v := .bool _) rfl rfl) ?_
        refine xl_pure rfl rfl rfl (pv_not rfl rfl) ?_
        refine xl_nil ?_
        refine xthen_normal ?_
        refine xc_cond_t rfl ?_
        refine xc_seq ?_
        refine xc_region ?_
        refine xl_pure rfl rfl rfl (pv_build_s (cs := [.int _ _, .int _ _, .int _ _, .int _ _, .int _ _, .int _ _, .int _ _, .int _ _, .int _ _, .int _ _, .int _ _, .slice _ _ _, .int _ _, .int _ _, .int _ _, .int _ _]) rfl rfl rfl) ?_
        refine xl_store rfl rfl (hv_storeA (vs := [.int _ _, .int _ _, .int _ _, .int _ _, .int _ _, .int _ _, .int _ _, .int _ _, .int _ _, .int _ _, .int _ _, .slice _ _ _, .int _ _, .int _ _, .int _ _, .int _ _]) rfl rfl rfl (by first | exact ld_blk hr rfl | exact hx | exact hz | exact ld_blk_a hr rfl rfl | exact ld_blk_a hx rfl rfl) rfl (by rfl) rfl) ?_
        rintro v33_1 H33_1 ⟨hU33_1, hZ33_1⟩
        have hX := hX.ofBut hU33_1.but hgz
        have hz := hU33_1.blk
        refine xl_pure rfl rfl rfl (pv_assign (v := .int _ _) rfl rfl) ?_
        refine xl_nil ?_
        refine xthen_normal ?_
        refine xc_ret ?_
        refine xthen_ret ?_
        refine fin_ret (resv2 rfl (rv_c (ty := 26) rfl (ld_blk_a hz rfl rfl)) (rv_t (v := .int _ _) rfl)) ?_
        exact ⟨9, J0, none, 0, rfl, (do_no hg htm (by rw [ha]; exact decide_eq_false (by omega))).symm, .inl rfl, hX⟩
    · skip
      refine xl_pure rfl rfl rfl (pv_assign (v := .bool _) rfl rfl) ?_
      refine xl_nil ?_
      refine xthen_normal ?_
      refine xc_cond_f rfl ?_
      refine xc_seq ?_
      refine xc_region ?_
      refine xl_dec rfl rfl rfl (pv_eql rfl rfl rfl) (fun h16_0 => ?_) (fun h16_0 => ?_)
      · skip
        refine xl_pure rfl rfl rfl (pv_assign (v := .bool _) rfl rfl) ?_
        refine xl_nil ?_
        refine xthen_normal ?_
        refine xc_cond_t rfl ?_
        refine xc_seq ?_
        have ha : actB j what now = actB j 2 now := by rw [h16_0]
        refine xc_region ?_
        refine xl_pure rfl rfl rfl (pv_fieldAddr rfl rfl) ?_
        refine xl_light rfl rfl rfl (lv_load (v := .int _ _) rfl rfl (by first | exact ld_blk hr rfl | exact hx | exact hz | exact ld_blk_a hr rfl rfl | exact ld_blk_a hx rfl rfl)) ?_
        refine xl_dec rfl rfl rfl (pv_eql rfl rfl rfl) (fun h17_2 => ?_) (fun h17_2 => ?_)
        · skip
          refine xl_pure rfl rfl rfl (pv_move (v := .bool _) rfl rfl) ?_
          refine xl_pure rfl rfl rfl (pv_move (v := .int _ _) rfl rfl) ?_
          refine xl_pure rfl rfl rfl (pv_fieldAddr rfl rfl) ?_
          refine xl_light rfl rfl rfl (lv_load (v := .int _ _) rfl rfl (by first | exact ld_blk hr rfl | exact hx | exact hz | exact ld_blk_a hr rfl rfl | exact ld_blk_a hx rfl rfl)) ?_
          refine xl_dec rfl rfl rfl (pv_geq rfl rfl rfl) (fun h17_7 => ?_) (fun h17_7 => ?_)
          · skip
            refine xl_pure rfl rfl rfl (pv_pick_t (v := .bool _) rfl rfl rfl) ?_
            refine xl_pure rfl rfl rfl (pv_move (v := .bool _) rfl rfl) ?_
            refine xl_pure rfl rfl rfl (pv_move (v := .int _ _) rfl rfl) ?_
            refine xl_pure rfl rfl rfl (pv_fieldAddr rfl rfl) ?_
            refine xl_light rfl rfl rfl (lv_load (v := .int _ _) rfl rfl (by first | exact ld_blk hr rfl | exact hx | exact hz | exact ld_blk_a hr rfl rfl | exact ld_blk_a hx rfl rfl)) ?_
            refine xl_dec rfl rfl rfl (pv_lss rfl rfl rfl) (fun h17_13 => ?_) (fun h17_13 => ?_)
            · skip
              refine xl_pure rfl rfl rfl (pv_pick_t (v := .bool _) rfl rfl rfl) ?_
              refine xl_pure rfl rfl rfl (pv_assign (v := .bool _) rfl rfl) ?_
              refine xl_nil ?_
              refine xthen_normal ?_
              refine xc_seq ?_
              refine xc_region ?_
              refine xl_pure rfl rfl rfl (pv_fieldAddr rfl rfl) ?_
              refine xl_store rfl rfl (hv_store (vs := [.int _ _]) rfl rfl rfl (by first | exact ld_blk hr rfl | exact hx | exact hz | exact ld_blk_a hr rfl rfl | exact ld_blk_a hx rfl rfl) rfl (Nat.le_of_ble_eq_true rfl) rfl) ?_
              rintro v18_1 H18_1 ⟨hU18_1, hZ18_1⟩
              have hx := hU18_1.blk
              have hX := hX.ofBut hU18_1.but hgx
              have hr := hr.but hU18_1.but hnr
              have hz := hz.but hU18_1.but hnz
              refine xl_nil ?_
              refine xthen_normal ?_
              refine xc_seq ?_
              refine xc_region ?_
              refine xl_pure rfl rfl rfl (pv_fieldAddr rfl rfl) ?_
              refine xl_light rfl rfl rfl (lv_load (v := .int _ _) rfl rfl (by first | exact ld_blk hr rfl | exact hx | exact hz | exact ld_blk_a hr rfl rfl | exact ld_blk_a hx rfl rfl)) ?_
              refine xl_pure rfl rfl rfl (pv_move (v := .int _ _) rfl rfl) ?_
              refine xl_pure rfl rfl rfl (pv_sub rfl rfl rfl (fit_i64 (by omega))) ?_
              refine xl_pure rfl rfl rfl (pv_fieldAddr rfl rfl) ?_
              refine xl_store rfl rfl (hv_store (vs := [.int _ _]) rfl rfl rfl (by first | exact ld_blk hr rfl | exact hx | exact hz | exact ld_blk_a hr rfl rfl | exact ld_blk_a hx rfl rfl) rfl (Nat.le_of_ble_eq_true rfl) rfl) ?_
              rintro v19_5 H19_5 ⟨hU19_5, hZ19_5⟩
              have hx := hU19_5.blk
              have hX := hX.ofBut hU19_5.but hgx
              have hr := hr.but hU19_5.but hnr
              have hz := hz.but hU19_5.but hnz
              refine xl_nil ?_
              refine xthen_normal ?_
              refine xc_seq ?_
              refine xc_region ?_
              refine xl_pure rfl rfl rfl (pv_fieldAddr rfl rfl) ?_
              refine xl_store rfl rfl (hv_store (vs := [.int _ _]) rfl rfl rfl (by first | exact ld_blk hr rfl | exact hx | exact hz | exact ld_blk_a hr rfl rfl | exact ld_blk_a hx rfl rfl) rfl (Nat.le_of_ble_eq_true rfl) rfl) ?_
              rintro v20_1 H20_1 ⟨hU20_1, hZ20_1⟩
              have hx := hU20_1.blk
              have hX := hX.ofBut hU20_1.but hgx
              have hr := hr.but hU20_1.but hnr
              have hz := hz.but hU20_1.but hnz
              refine xl_nil ?_
              refine xthen_normal ?_
              refine xc_region ?_
              refine xl_pure rfl rfl rfl (pv_fieldAddr rfl rfl) ?_
              refine xl_store rfl rfl (hv_store (vs := [.int _ _]) rfl rfl rfl (by first | exact ld_blk hr rfl | exact hx | exact hz | exact ld_blk_a hr rfl rfl | exact ld_blk_a hx rfl rfl) rfl (Nat.le_of_ble_eq_true rfl) rfl) ?_
              rintro v21_1 H21_1 ⟨hU21_1, hZ21_1⟩
              have hx := hU21_1.blk
              have hX := hX.ofBut hU21_1.but hgx
              have hr := hr.but hU21_1.but hnr
              have hz := hz.but hU21_1.but hnz
              refine xl_nil ?_
              refine xblock_normal ?_
              refine xthen_normal ?_
              refine xc_seq ?_
              refine xc_seq ?_
              refine xc_region ?_
              refine xl_pure rfl rfl rfl (pv_move (v := .bool _) rfl rfl) ?_
              refine xl_pure rfl rfl rfl (pv_not rfl rfl) ?_
              refine xl_nil ?_
              refine xthen_normal ?_
              refine xc_cond_f rfl ?_
              refine xc_skip ?_
              refine xthen_normal ?_
              refine xc_seq ?_
              refine xc_region ?_
              refine xl_light rfl rfl rfl (lv_load (v := .agg _) rfl rfl (by first | exact ld_blk hr rfl | exact hx | exact hz | exact ld_blk_a hr rfl rfl | exact ld_blk_a hx rfl rfl)) ?_
              refine xl_store rfl rfl (hv_storeA (vs := [.int _ _, .int _ _, .int _ _, .int _ _, .int _ _, .int _ _, .int _ _, .int _ _, .int _ _, .int _ _, .int _ _, .slice _ _ _, .int _ _, .int _ _, .int _ _, .int _ _]) rfl rfl rfl (by first | exact ld_blk hr rfl | exact hx | exact hz | exact ld_blk_a hr rfl rfl | exact ld_blk_a hx rfl rfl) rfl (by rfl) rfl) ?_
              rintro v34_1 H34_1 ⟨hU34_1, hZ34_1⟩
              have hX := hX.ofBut hU34_1.but hgz
              have hz := hU34_1.blk
              refine xl_pure rfl rfl rfl (pv_assign (v := .int _ _) rfl rfl) ?_
              refine xl_nil ?_
              refine xthen_normal ?_
              refine xc_ret ?_
              refine fin_ret (resv2 rfl (rv_c (ty := 26) rfl (ld_blk_a hz rfl rfl)) (rv_t (v := .int _ _) rfl)) ?_
              exact ⟨0, (actB j what now).2, a, c, by rw [ha]; rfl, (do_ok hg htm (by rw [ha]; exact decide_eq_true (by omega))).symm, .inr ⟨act_needs _ _ _, rfl⟩, hX⟩
            · skip
              refine xl_pure rfl rfl rfl (pv_pick_t (v := .bool _) rfl rfl rfl) ?_
              refine xl_pure rfl rfl rfl (pv_assign (v := .bool _) rfl rfl) ?_
              refine xl_nil ?_
              refine xthen_normal ?_
              refine xc_seq ?_
              refine xc_region ?_
              refine xl_pure rfl rfl rfl (pv_fieldAddr rfl rfl) ?_
              refine xl_store rfl rfl (hv_store (vs := [.int _ _]) rfl rfl rfl (by first | exact ld_blk hr rfl | exact hx | exact hz | exact ld_blk_a hr rfl rfl | exact ld_blk_a hx rfl rfl) rfl (Nat.le_of_ble_eq_true rfl) rfl) ?_
              rintro v18_1 H18_1 ⟨hU18_1, hZ18_1⟩
              have hx := hU18_1.blk
              have hX := hX.ofBut hU18_1.but hgx
              have hr := hr.but hU18_1.but hnr
              have hz := hz.but hU18_1.but hnz
              refine xl_nil ?_
              refine xthen_normal ?_
              refine xc_seq ?_
              refine xc_region ?_
              refine xl_pure rfl rfl rfl (pv_fieldAddr rfl rfl) ?_
              refine xl_light rfl rfl rfl (lv_load (v := .int _ _) rfl rfl (by first | exact ld_blk hr rfl | exact hx | exact hz | exact ld_blk_a hr rfl rfl | exact ld_blk_a hx rfl rfl)) ?_
              refine xl_pure rfl rfl rfl (pv_move (v := .int _ _) rfl rfl) ?_
              refine xl_pure rfl rfl rfl (pv_sub rfl rfl rfl (fit_i64 (by omega))) ?_
              refine xl_pure rfl rfl rfl (pv_fieldAddr rfl rfl) ?_
              refine xl_store rfl rfl (hv_store (vs := [.int _ _]) rfl rfl rfl (by first | exact ld_blk hr rfl | exact hx | exact hz | exact ld_blk_a hr rfl rfl | exact ld_blk_a hx rfl rfl) rfl (Nat.le_of_ble_eq_true rfl) rfl) ?_
              rintro v19_5 H19_5 ⟨hU19_5, hZ19_5⟩
              have hx := hU19_5.blk
              have hX := hX.ofBut hU19_5.but hgx
              have hr := hr.but hU19_5.but hnr
              have hz := hz.but hU19_5.but hnz
              refine xl_nil ?_
              refine xthen_normal ?_
              refine xc_seq ?_
              refine xc_region ?_
              refine xl_pure rfl rfl rfl (pv_fieldAddr rfl rfl) ?_
              refine xl_store rfl rfl (hv_store (vs := [.int _ _]) rfl rfl rfl (by first | exact ld_blk hr rfl | exact hx | exact hz | exact ld_blk_a hr rfl rfl | exact ld_blk_a hx rfl rfl) rfl (Nat.le_of_ble_eq_true rfl) rfl) ?_
              rintro v20_1 H20_1 ⟨hU20_1, hZ20_1⟩
              have hx := hU20_1.blk
              have hX := hX.ofBut hU20_1.but hgx
              have hr := hr.but hU20_1.but hnr
              have hz := hz.but hU20_1.but hnz
              refine xl_nil ?_
              refine xthen_normal ?_
              refine xc_region ?_
              refine xl_pure rfl rfl rfl (pv_fieldAddr rfl rfl) ?_
              refine xl_store rfl rfl (hv_store (vs := [.int _ _]) rfl rfl rfl (by first | exact ld_blk hr rfl | exact hx | exact hz | exact ld_blk_a hr rfl rfl | exact ld_blk_a hx rfl rfl) rfl (Nat.le_of_ble_eq_true rfl) rfl) ?_
              rintro v21_1 H21_1 ⟨hU21_1, hZ21_1⟩
              have hx := hU21_1.blk
              have hX := hX.ofBut hU21_1.but hgx
              have hr := hr.but hU21_1.but hnr
              have hz := hz.but hU21_1.but hnz
              refine xl_nil ?_
              refine xblock_normal ?_
              refine xthen_normal ?_
              refine xc_seq ?_
              refine xc_seq ?_
              refine xc_region ?_
              refine xl_pure rfl rfl rfl (pv_move (v := .bool _) rfl rfl) ?_
              refine xl_pure rfl rfl rfl (pv_not rfl rfl) ?_
              refine xl_nil ?_
              refine xthen_normal ?_
              refine xc_cond_t rfl ?_
              refine xc_seq ?_
              refine xc_region ?_
              refine xl_pure rfl rfl rfl (pv_build_s (cs := [.int _ _, .int _ _, .int _ _, .int _ _, .int _ _, .int _ _, .int _ _, .int _ _, .int _ _, .int _ _, .int _ _, .slice _ _ _, .int _ _, .int _ _, .int _ _, .int _ _]) rfl rfl rfl) ?_
              refine xl_store rfl rfl (hv_storeA (vs := [.int _ _, .int _ _, .int _ _, .int _ _, .int _ _, .int _ _, .int _ _, .int _ _, .int _ _, .int _ _, .int _ _, .slice _ _ _, .int _ _, .int _ _, .int _ _, .int _ _]) rfl rfl rfl (by first | exact ld_blk hr rfl | exact hx | exact hz | exact ld_blk_a hr rfl rfl | exact ld_blk_a hx rfl rfl) rfl (by rfl) rfl) ?_
              rintro v33_1 H33_1 ⟨hU33_1, hZ33_1⟩
              have hX := hX.ofBut hU33_1.but hgz
              have hz := hU33_1.blk
              refine xl_pure rfl rfl rfl (pv_assign (v := .int _ _) rfl rfl) ?_
              refine xl_nil ?_
              refine xthen_normal ?_
              refine xc_ret ?_
              refine xthen_ret ?_
              refine fin_ret (resv2 rfl (rv_c (ty := 26) rfl (ld_blk_a hz rfl rfl)) (rv_t (v := .int _ _) rfl)) ?_
              exact ⟨9, J0, none, 0, rfl, (do_no hg htm (by rw [ha]; exact decide_eq_false (by omega))).symm, .inl rfl, hX⟩
          · skip
            refine xl_pure rfl rfl rfl (pv_pick_t (v := .bool _) rfl rfl rfl) ?_
            refine xl_pure rfl rfl rfl (pv_move (v := .bool _) rfl rfl) ?_
            refine xl_skip rfl rfl rfl ?_
            refine xl_skip rfl rfl rfl ?_
            refine xl_skip rfl rfl rfl ?_
            refine xl_skip rfl rfl rfl ?_
            refine xl_pure rfl rfl rfl (pv_pick_f (v := .bool _) rfl rfl rfl) ?_
            refine xl_pure rfl rfl rfl (pv_assign (v := .bool _) rfl rfl) ?_
            refine xl_nil ?_
            refine xthen_normal ?_
            refine xc_seq ?_
            refine xc_region ?_
            refine xl_pure rfl rfl rfl (pv_fieldAddr rfl rfl) ?_
            refine xl_store rfl rfl (hv_store (vs := [.int _ _]) rfl rfl rfl (by first | exact ld_blk hr rfl | exact hx | exact hz | exact ld_blk_a hr rfl rfl | exact ld_blk_a hx rfl rfl) rfl (Nat.le_of_ble_eq_true rfl) rfl) ?_
            rintro v18_1 H18_1 ⟨hU18_1, hZ18_1⟩
            have hx := hU18_1.blk
            have hX := hX.ofBut hU18_1.but hgx
            have hr := hr.but hU18_1.but hnr
            have hz := hz.but hU18_1.but hnz
            refine xl_nil ?_
            refine xthen_normal ?_
            refine xc_seq ?_
            refine xc_region ?_
            refine xl_pure rfl rfl rfl (pv_fieldAddr rfl rfl) ?_
            refine xl_light rfl rfl rfl (lv_load (v := .int _ _) rfl rfl (by first | exact ld_blk hr rfl | exact hx | exact hz | exact ld_blk_a hr rfl rfl | exact ld_blk_a hx rfl rfl)) ?_
            refine xl_pure rfl rfl rfl (pv_move (v := .int _ _) rfl rfl) ?_
            refine xl_pure rfl rfl rfl (pv_sub rfl rfl rfl (fit_i64 (by omega))) ?_
            refine xl_pure rfl rfl rfl (pv_fieldAddr rfl rfl) ?_
            refine xl_store rfl rfl (hv_store (vs := [.int _ _]) rfl rfl rfl (by first | exact ld_blk hr rfl | exact hx | exact hz | exact ld_blk_a hr rfl rfl | exact ld_blk_a hx rfl rfl) rfl (Nat.le_of_ble_eq_true rfl) rfl) ?_
            rintro v19_5 H19_5 ⟨hU19_5, hZ19_5⟩
            have hx := hU19_5.blk
            have hX := hX.ofBut hU19_5.but hgx
            have hr := hr.but hU19_5.but hnr
            have hz := hz.but hU19_5.but hnz
            refine xl_nil ?_
            refine xthen_normal ?_
            refine xc_seq ?_
            refine xc_region ?_
            refine xl_pure rfl rfl rfl (pv_fieldAddr rfl rfl) ?_
            refine xl_store rfl rfl (hv_store (vs := [.int _ _]) rfl rfl rfl (by first | exact ld_blk hr rfl | exact hx | exact hz | exact ld_blk_a hr rfl rfl | exact ld_blk_a hx rfl rfl) rfl (Nat.le_of_ble_eq_true rfl) rfl) ?_
            rintro v20_1 H20_1 ⟨hU20_1, hZ20_1⟩
            have hx := hU20_1.blk
            have hX := hX.ofBut hU20_1.but hgx
            have hr := hr.but hU20_1.but hnr
            have hz := hz.but hU20_1.but hnz
            refine xl_nil ?_
            refine xthen_normal ?_
            refine xc_region ?_
            refine xl_pure rfl rfl rfl (pv_fieldAddr rfl rfl) ?_
            refine xl_store rfl rfl (hv_store (vs := [.int _ _]) rfl rfl rfl (by first | exact ld_blk hr rfl | exact hx | exact hz | exact ld_blk_a hr rfl rfl | exact ld_blk_a hx rfl rfl) rfl (Nat.le_of_ble_eq_true rfl) rfl) ?_
            rintro v21_1 H21_1 ⟨hU21_1, hZ21_1⟩
            have hx := hU21_1.blk
            have hX := hX.ofBut hU21_1.but hgx
            have hr := hr.but hU21_1.but hnr
            have hz := hz.but hU21_1.but hnz
            refine xl_nil ?_
            refine xblock_normal ?_
            refine xthen_normal ?_
            refine xc_seq ?_
            refine xc_seq ?_
            refine xc_region ?_
            refine xl_pure rfl rfl rfl (pv_move (v := .bool _) rfl rfl) ?_
            refine xl_pure rfl rfl rfl (pv_not rfl rfl) ?_
            refine xl_nil ?_
            refine xthen_normal ?_
            refine xc_cond_t rfl ?_
            refine xc_seq ?_
            refine xc_region ?_
            refine xl_pure rfl rfl rfl (pv_build_s (cs := [.int _ _, .int _ _, .int _ _, .int _ _, .int _ _, .int _ _, .int _ _, .int _ _, .int _ _, .int _ _, .int _ _, .slice _ _ _, .int _ _, .int _ _, .int _ _, .int _ _]) rfl rfl rfl) ?_
            refine xl_store rfl rfl (hv_storeA (vs := [.int _ _, .int _ _, .int _ _, .int _ _, .int _ _, .int _ _, .int _ _, .int _ _, .int _ _, .int _ _, .int _ _, .slice _ _ _, .int _ _, .int _ _, .int _ _, .int _ _]) rfl rfl rfl (by first | exact ld_blk hr rfl | exact hx | exact hz | exact ld_blk_a hr rfl rfl | exact ld_blk_a hx rfl rfl) rfl (by rfl) rfl) ?_
            rintro v33_1 H33_1 ⟨hU33_1, hZ33_1⟩
            have hX := hX.ofBut hU33_1.but hgz
            have hz := hU33_1.blk
            refine xl_pure rfl rfl rfl (pv_assign (v := .int _ _) rfl rfl) ?_
            refine xl_nil ?_
            refine xthen_normal ?_
            refine xc_ret ?_
            refine xthen_ret ?_
            refine fin_ret (resv2 rfl (rv_c (ty := 26) rfl (ld_blk_a hz rfl rfl)) (rv_t (v := .int _ _) rfl)) ?_
            exact ⟨9, J0, none, 0, rfl, (do_no hg htm (by rw [ha]; exact decide_eq_false (by omega))).symm, .inl rfl, hX⟩
        · skip
          refine xl_pure rfl rfl rfl (pv_move (v := .bool _) rfl rfl) ?_
          refine xl_skip rfl rfl rfl ?_
          refine xl_skip rfl rfl rfl ?_
          refine xl_skip rfl rfl rfl ?_
          refine xl_skip rfl rfl rfl ?_
          refine xl_pure rfl rfl rfl (pv_pick_f (v := .bool _) rfl rfl rfl) ?_
          refine xl_pure rfl rfl rfl (pv_move (v := .bool _) rfl rfl) ?_
          refine xl_skip rfl rfl rfl ?_
          refine xl_skip rfl rfl rfl ?_
          refine xl_skip rfl rfl rfl ?_
          refine xl_skip rfl rfl rfl ?_
          refine xl_pure rfl rfl rfl (pv_pick_f (v := .bool _) rfl rfl rfl) ?_
          refine xl_pure rfl rfl rfl (pv_assign (v := .bool _) rfl rfl) ?_
          refine xl_nil ?_
          refine xthen_normal ?_
          refine xc_seq ?_
          refine xc_region ?_
          refine xl_pure rfl rfl rfl (pv_fieldAddr rfl rfl) ?_
          refine xl_store rfl rfl (hv_store (vs := [.int _ _]) rfl rfl rfl (by first | exact ld_blk hr rfl | exact hx | exact hz | exact ld_blk_a hr rfl rfl | exact ld_blk_a hx rfl rfl) rfl (Nat.le_of_ble_eq_true rfl) rfl) ?_
          rintro v18_1 H18_1 ⟨hU18_1, hZ18_1⟩
          have hx := hU18_1.blk
          have hX := hX.ofBut hU18_1.but hgx
          have hr := hr.but hU18_1.but hnr
          have hz := hz.but hU18_1.but hnz
          refine xl_nil ?_
          refine xthen_normal ?_
          refine xc_seq ?_
          refine xc_region ?_
          refine xl_pure rfl rfl rfl (pv_fieldAddr rfl rfl) ?_
          refine xl_light rfl rfl rfl (lv_load (v := .int _ _) rfl rfl (by first | exact ld_blk hr rfl | exact hx | exact hz | exact ld_blk_a hr rfl rfl | exact ld_blk_a hx rfl rfl)) ?_
          refine xl_pure rfl rfl rfl (pv_move (v := .int _ _) rfl rfl) ?_
          refine xl_pure rfl rfl rfl (pv_sub rfl rfl rfl (fit_i64 (by omega))) ?_
          refine xl_pure rfl rfl rfl (pv_fieldAddr rfl rfl) ?_
          refine xl_store rfl rfl (hv_store (vs := [.int _ _]) rfl rfl rfl (by first | exact ld_blk hr rfl | exact hx | exact hz | exact ld_blk_a hr rfl rfl | exact ld_blk_a hx rfl rfl) rfl (Nat.le_of_ble_eq_true rfl) rfl) ?_
          rintro v19_5 H19_5 ⟨hU19_5, hZ19_5⟩
          have hx := hU19_5.blk
          have hX := hX.ofBut hU19_5.but hgx
          have hr := hr.but hU19_5.but hnr
          have hz := hz.but hU19_5.but hnz
          refine xl_nil ?_
          refine xthen_normal ?_
          refine xc_seq ?_
          refine xc_region ?_
          refine xl_pure rfl rfl rfl (pv_fieldAddr rfl rfl) ?_
          refine xl_store rfl rfl (hv_store (vs := [.int _ _]) rfl rfl rfl (by first | exact ld_blk hr rfl | exact hx | exact hz | exact ld_blk_a hr rfl rfl | exact ld_blk_a hx rfl rfl) rfl (Nat.le_of_ble_eq_true rfl) rfl) ?_
          rintro v20_1 H20_1 ⟨hU20_1, hZ20_1⟩
          have hx := hU20_1.blk
          have hX := hX.ofBut hU20_1.but hgx
          have hr := hr.but hU20_1.but hnr
          have hz := hz.but hU20_1.but hnz
          refine xl_nil ?_
          refine xthen_normal ?_
          refine xc_region ?_
          refine xl_pure rfl rfl rfl (pv_fieldAddr rfl rfl) ?_
          refine xl_store rfl rfl (hv_store (vs := [.int _ _]) rfl rfl rfl (by first | exact ld_blk hr rfl | exact hx | exact hz | exact ld_blk_a hr rfl rfl | exact ld_blk_a hx rfl rfl) rfl (Nat.le_of_ble_eq_true rfl) rfl) ?_
          rintro v21_1 H21_1 ⟨hU21_1, hZ21_1⟩
          have hx := hU21_1.blk
          have hX := hX.ofBut hU21_1.but hgx
          have hr := hr.but hU21_1.but hnr
          have hz := hz.but hU21_1.but hnz
          refine xl_nil ?_
          refine xblock_normal ?_
          refine xthen_normal ?_
          refine xc_seq ?_
          refine xc_seq ?_
          refine xc_region ?_
          refine xl_pure rfl rfl rfl (pv_move (v := .bool _) rfl rfl) ?_
          refine xl_pure rfl rfl rfl (pv_not rfl rfl) ?_
          refine xl_nil ?_
          refine xthen_normal ?_
          refine xc_cond_t rfl ?_
          refine xc_seq ?_
          refine xc_region ?_
          refine xl_pure rfl rfl rfl (pv_build_s (cs := [.int _ _, .int _ _, .int _ _, .int _ _, .int _ _, .int _ _, .int _ _, .int _ _, .int _ _, .int _ _, .int _ _, .slice _ _ _, .int _ _, .int _ _, .int _ _, .int _ _]) rfl rfl rfl) ?_
          refine xl_store rfl rfl (hv_storeA (vs := [.int _ _, .int _ _, .int _ _, .int _ _, .int _ _, .int _ _, .int _ _, .int _ _, .int _ _, .int _ _, .int _ _, .slice _ _ _, .int _ _, .int _ _, .int _ _, .int _ _]) rfl rfl rfl (by first | exact ld_blk hr rfl | exact hx | exact hz | exact ld_blk_a hr rfl rfl | exact ld_blk_a hx rfl rfl) rfl (by rfl) rfl) ?_
          rintro v33_1 H33_1 ⟨hU33_1, hZ33_1⟩
          have hX := hX.ofBut hU33_1.but hgz
          have hz := hU33_1.blk
          refine xl_pure rfl rfl rfl (pv_assign (v := .int _ _) rfl rfl) ?_
          refine xl_nil ?_
          refine xthen_normal ?_
          refine xc_ret ?_
          refine xthen_ret ?_
          refine fin_ret (resv2 rfl (rv_c (ty := 26) rfl (ld_blk_a hz rfl rfl)) (rv_t (v := .int _ _) rfl)) ?_
          exact ⟨9, J0, none, 0, rfl, (do_no hg htm (by rw [ha]; exact decide_eq_false (by omega))).symm, .inl rfl, hX⟩
      · skip
        refine xl_pure rfl rfl rfl (pv_assign (v := .bool _) rfl rfl) ?_
        refine xl_nil ?_
        refine xthen_normal ?_
        refine xc_cond_f rfl ?_
        refine xc_seq ?_
        refine xc_region ?_
        refine xl_dec rfl rfl rfl (pv_eql rfl rfl rfl) (fun h22_0 => ?_) (fun h22_0 => ?_)
        · skip
          refine xl_pure rfl rfl rfl (pv_assign (v := .bool _) rfl rfl) ?_
          refine xl_nil ?_
          refine xthen_normal ?_
          refine xc_cond_t rfl ?_
          refine xc_seq ?_
          have ha : actB j what now = actB j 3 now := by rw [h22_0]
          refine xc_region ?_
          refine xl_pure rfl rfl rfl (pv_fieldAddr rfl rfl) ?_
          refine xl_light rfl rfl rfl (lv_load (v := .int _ _) rfl rfl (by first | exact ld_blk hr rfl | exact hx | exact hz | exact ld_blk_a hr rfl rfl | exact ld_blk_a hx rfl rfl)) ?_
          refine xl_dec rfl rfl rfl (pv_eql rfl rfl rfl) (fun h23_2 => ?_) (fun h23_2 => ?_)
          · skip
            refine xl_pure rfl rfl rfl (pv_assign (v := .bool _) rfl rfl) ?_
            refine xl_nil ?_
            refine xthen_normal ?_
            refine xc_region ?_
            refine xl_pure rfl rfl rfl (pv_fieldAddr rfl rfl) ?_
            refine xl_store rfl rfl (hv_store (vs := [.int _ _]) rfl rfl rfl (by first | exact ld_blk hr rfl | exact hx | exact hz | exact ld_blk_a hr rfl rfl | exact ld_blk_a hx rfl rfl) rfl (Nat.le_of_ble_eq_true rfl) rfl) ?_
            rintro v24_1 H24_1 ⟨hU24_1, hZ24_1⟩
            have hx := hU24_1.blk
            have hX := hX.ofBut hU24_1.but hgx
            have hr := hr.but hU24_1.but hnr
            have hz := hz.but hU24_1.but hnz
            refine xl_nil ?_
            refine xblock_normal ?_
            refine xthen_normal ?_
            refine xc_seq ?_
            refine xc_seq ?_
            refine xc_region ?_
            refine xl_pure rfl rfl rfl (pv_move (v := .bool _) rfl rfl) ?_
            refine xl_pure rfl rfl rfl (pv_not rfl rfl) ?_
            refine xl_nil ?_
            refine xthen_normal ?_
            refine xc_cond_f rfl ?_
            refine xc_skip ?_
            refine xthen_normal ?_
            refine xc_seq ?_
            refine xc_region ?_
            refine xl_light rfl rfl rfl (lv_load (v := .agg _) rfl rfl (by first | exact ld_blk hr rfl | exact hx | exact hz | exact ld_blk_a hr rfl rfl | exact ld_blk_a hx rfl rfl)) ?_
            refine xl_store rfl rfl (hv_storeA (vs := [.int _ _, .int _ _, .int _ _, .int _ _, .int _ _, .int _ _, .int _ _, .int _ _, .int _ _, .int _ _, .int _ _, .slice _ _ _, .int _ _, .int _ _, .int _ _, .int _ _]) rfl rfl rfl (by first | exact ld_blk hr rfl | exact hx | exact hz | exact ld_blk_a hr rfl rfl | exact ld_blk_a hx rfl rfl) rfl (by rfl) rfl) ?_
            rintro v34_1 H34_1 ⟨hU34_1, hZ34_1⟩
            have hX := hX.ofBut hU34_1.but hgz
            have hz := hU34_1.blk
            refine xl_pure rfl rfl rfl (pv_assign (v := .int _ _) rfl rfl) ?_
            refine xl_nil ?_
            refine xthen_normal ?_
            refine xc_ret ?_
            refine fin_ret (resv2 rfl (rv_c (ty := 26) rfl (ld_blk_a hz rfl rfl)) (rv_t (v := .int _ _) rfl)) ?_
            exact ⟨0, (actB j what now).2, a, c, by rw [ha]; rfl, (do_ok hg htm (by rw [ha]; exact decide_eq_true (by omega))).symm, .inr ⟨act_needs _ _ _, rfl⟩, hX⟩
          · skip
            refine xl_pure rfl rfl rfl (pv_assign (v := .bool _) rfl rfl) ?_
            refine xl_nil ?_
            refine xthen_normal ?_
            refine xc_region ?_
            refine xl_pure rfl rfl rfl (pv_fieldAddr rfl rfl) ?_
            refine xl_store rfl rfl (hv_store (vs := [.int _ _]) rfl rfl rfl (by first | exact ld_blk hr rfl | exact hx | exact hz | exact ld_blk_a hr rfl rfl | exact ld_blk_a hx rfl rfl) rfl (Nat.le_of_ble_eq_true rfl) rfl) ?_
            rintro v24_1 H24_1 ⟨hU24_1, hZ24_1⟩
            have hx := hU24_1.blk
            have hX := hX.ofBut hU24_1.but hgx
            have hr := hr.but hU24_1.but hnr
            have hz := hz.but hU24_1.but hnz
            refine xl_nil ?_
            refine xblock_normal ?_
            refine xthen_normal ?_
            refine xc_seq ?_
            refine xc_seq ?_
            refine xc_region ?_
            refine xl_pure rfl rfl rfl (pv_move (v := .bool _) rfl rfl) ?_
            refine xl_pure rfl rfl rfl (pv_not rfl rfl) ?_
            refine xl_nil ?_
            refine xthen_normal ?_
            refine xc_cond_t rfl ?_
            refine xc_seq ?_
            refine xc_region ?_
            refine xl_pure rfl rfl rfl (pv_build_s (cs := [.int _ _, .int _ _, .int _ _, .int _ _, .int _ _, .int _ _, .int _ _, .int _ _, .int _ _, .int _ _, .int _ _, .slice _ _ _, .int _ _, .int _ _, .int _ _, .int _ _]) rfl rfl rfl) ?_
            refine xl_store rfl rfl (hv_storeA (vs := [.int _ _, .int _ _, .int _ _, .int _ _, .int _ _, .int _ _, .int _ _, .int _ _, .int _ _, .int _ _, .int _ _, .slice _ _ _, .int _ _, .int _ _, .int _ _, .int _ _]) rfl rfl rfl (by first | exact ld_blk hr rfl | exact hx | exact hz | exact ld_blk_a hr rfl rfl | exact ld_blk_a hx rfl rfl) rfl (by rfl) rfl) ?_
            rintro v33_1 H33_1 ⟨hU33_1, hZ33_1⟩
            have hX := hX.ofBut hU33_1.but hgz
            have hz := hU33_1.blk
            refine xl_pure rfl rfl rfl (pv_assign (v := .int _ _) rfl rfl) ?_
            refine xl_nil ?_
            refine xthen_normal ?_
            refine xc_ret ?_
            refine xthen_ret ?_
            refine fin_ret (resv2 rfl (rv_c (ty := 26) rfl (ld_blk_a hz rfl rfl)) (rv_t (v := .int _ _) rfl)) ?_
            exact ⟨9, J0, none, 0, rfl, (do_no hg htm (by rw [ha]; exact decide_eq_false (by omega))).symm, .inl rfl, hX⟩
        · skip
          refine xl_pure rfl rfl rfl (pv_assign (v := .bool _) rfl rfl) ?_
          refine xl_nil ?_
          refine xthen_normal ?_
          refine xc_cond_f rfl ?_
          refine xc_seq ?_
          refine xc_region ?_
          refine xl_dec rfl rfl rfl (pv_eql rfl rfl rfl) (fun h25_0 => ?_) (fun h25_0 => ?_)
          · skip
            refine xl_pure rfl rfl rfl (pv_assign (v := .bool _) rfl rfl) ?_
            refine xl_nil ?_
            refine xthen_normal ?_
            refine xc_cond_t rfl ?_
            refine xc_seq ?_
            have ha : actB j what now = actB j 4 now := by rw [h25_0]
            refine xc_region ?_
            refine xl_pure rfl rfl rfl (pv_fieldAddr rfl rfl) ?_
            refine xl_light rfl rfl rfl (lv_load (v := .int _ _) rfl rfl (by first | exact ld_blk hr rfl | exact hx | exact hz | exact ld_blk_a hr rfl rfl | exact ld_blk_a hx rfl rfl)) ?_
            refine xl_dec rfl rfl rfl (pv_eql rfl rfl rfl) (fun h26_2 => ?_) (fun h26_2 => ?_)
            · skip
              refine xl_pure rfl rfl rfl (pv_move (v := .bool _) rfl rfl) ?_
              refine xl_pure rfl rfl rfl (pv_move (v := .int _ _) rfl rfl) ?_
              refine xl_pure rfl rfl rfl (pv_fieldAddr rfl rfl) ?_
              refine xl_light rfl rfl rfl (lv_load (v := .int _ _) rfl rfl (by first | exact ld_blk hr rfl | exact hx | exact hz | exact ld_blk_a hr rfl rfl | exact ld_blk_a hx rfl rfl)) ?_
              refine xl_dec rfl rfl rfl (pv_geq rfl rfl rfl) (fun h26_7 => ?_) (fun h26_7 => ?_)
              · skip
                refine xl_pure rfl rfl rfl (pv_pick_t (v := .bool _) rfl rfl rfl) ?_
                refine xl_pure rfl rfl rfl (pv_assign (v := .bool _) rfl rfl) ?_
                refine xl_nil ?_
                refine xthen_normal ?_
                refine xc_seq ?_
                refine xc_region ?_
                refine xl_pure rfl rfl rfl (pv_fieldAddr rfl rfl) ?_
                refine xl_store rfl rfl (hv_store (vs := [.int _ _]) rfl rfl rfl (by first | exact ld_blk hr rfl | exact hx | exact hz | exact ld_blk_a hr rfl rfl | exact ld_blk_a hx rfl rfl) rfl (Nat.le_of_ble_eq_true rfl) rfl) ?_
                rintro v27_1 H27_1 ⟨hU27_1, hZ27_1⟩
                have hx := hU27_1.blk
                have hX := hX.ofBut hU27_1.but hgx
                have hr := hr.but hU27_1.but hnr
                have hz := hz.but hU27_1.but hnz
                refine xl_nil ?_
                refine xthen_normal ?_
                refine xc_region ?_
                refine xl_pure rfl rfl rfl (pv_fieldAddr rfl rfl) ?_
                refine xl_store rfl rfl (hv_store (vs := [.int _ _]) rfl rfl rfl (by first | exact ld_blk hr rfl | exact hx | exact hz | exact ld_blk_a hr rfl rfl | exact ld_blk_a hx rfl rfl) rfl (Nat.le_of_ble_eq_true rfl) rfl) ?_
                rintro v28_1 H28_1 ⟨hU28_1, hZ28_1⟩
                have hx := hU28_1.blk
                have hX := hX.ofBut hU28_1.but hgx
                have hr := hr.but hU28_1.but hnr
                have hz := hz.but hU28_1.but hnz
                refine xl_nil ?_
                refine xblock_normal ?_
                refine xthen_normal ?_
                refine xc_seq ?_
                refine xc_seq ?_
                refine xc_region ?_
                refine xl_pure rfl rfl rfl (pv_move (v := .bool _) rfl rfl) ?_
                refine xl_pure rfl rfl rfl (pv_not rfl rfl) ?_
                refine xl_nil ?_
                refine xthen_normal ?_
                refine xc_cond_f rfl ?_
                refine xc_skip ?_
                refine xthen_normal ?_
                refine xc_seq ?_
                refine xc_region ?_
                refine xl_light rfl rfl rfl (lv_load (v := .agg _) rfl rfl (by first | exact ld_blk hr rfl | exact hx | exact hz | exact ld_blk_a hr rfl rfl | exact ld_blk_a hx rfl rfl)) ?_
                refine xl_store rfl rfl (hv_storeA (vs := [.int _ _, .int _ _, .int _ _, .int _ _, .int _ _, .int _ _, .int _ _, .int _ _, .int _ _, .int _ _, .int _ _, .slice _ _ _, .int _ _, .int _ _, .int _ _, .int _ _]) rfl rfl rfl (by first | exact ld_blk hr rfl | exact hx | exact hz | exact ld_blk_a hr rfl rfl | exact ld_blk_a hx rfl rfl) rfl (by rfl) rfl) ?_
                rintro v34_1 H34_1 ⟨hU34_1, hZ34_1⟩
                have hX := hX.ofBut hU34_1.but hgz
                have hz := hU34_1.blk
                refine xl_pure rfl rfl rfl (pv_assign (v := .int _ _) rfl rfl) ?_
                refine xl_nil ?_
                refine xthen_normal ?_
                refine xc_ret ?_
                refine fin_ret (resv2 rfl (rv_c (ty := 26) rfl (ld_blk_a hz rfl rfl)) (rv_t (v := .int _ _) rfl)) ?_
                exact ⟨0, (actB j what now).2, a, c, by rw [ha]; rfl, (do_ok hg htm (by rw [ha]; exact decide_eq_true (by omega))).symm, .inr ⟨act_needs _ _ _, rfl⟩, hX⟩
              · skip
                refine xl_pure rfl rfl rfl (pv_pick_t (v := .bool _) rfl rfl rfl) ?_
                refine xl_pure rfl rfl rfl (pv_assign (v := .bool _) rfl rfl) ?_
                refine xl_nil ?_
                refine xthen_normal ?_
                refine xc_seq ?_
                refine xc_region ?_
                refine xl_pure rfl rfl rfl (pv_fieldAddr rfl rfl) ?_
                refine xl_store rfl rfl (hv_store (vs := [.int _ _]) rfl rfl rfl (by first | exact ld_blk hr rfl | exact hx | exact hz | exact ld_blk_a hr rfl rfl | exact ld_blk_a hx rfl rfl) rfl (Nat.le_of_ble_eq_true rfl) rfl) ?_
                rintro v27_1 H27_1 ⟨hU27_1, hZ27_1⟩
                have hx := hU27_1.blk
                have hX := hX.ofBut hU27_1.but hgx
                have hr := hr.but hU27_1.but hnr
                have hz := hz.but hU27_1.but hnz
                refine xl_nil ?_
                refine xthen_normal ?_
                refine xc_region ?_
                refine xl_pure rfl rfl rfl (pv_fieldAddr rfl rfl) ?_
                refine xl_store rfl rfl (hv_store (vs := [.int _ _]) rfl rfl rfl (by first | exact ld_blk hr rfl | exact hx | exact hz | exact ld_blk_a hr rfl rfl | exact ld_blk_a hx rfl rfl) rfl (Nat.le_of_ble_eq_true rfl) rfl) ?_
                rintro v28_1 H28_1 ⟨hU28_1, hZ28_1⟩
                have hx := hU28_1.blk
                have hX := hX.ofBut hU28_1.but hgx
                have hr := hr.but hU28_1.but hnr
                have hz := hz.but hU28_1.but hnz
                refine xl_nil ?_
                refine xblock_normal ?_
                refine xthen_normal ?_
                refine xc_seq ?_
                refine xc_seq ?_
                refine xc_region ?_
                refine xl_pure rfl rfl rfl (pv_move (v := .bool _) rfl rfl) ?_
                refine xl_pure rfl rfl rfl (pv_not rfl rfl) ?_
                refine xl_nil ?_
                refine xthen_normal ?_
                refine xc_cond_t rfl ?_
                refine xc_seq ?_
                refine xc_region ?_
                refine xl_pure rfl rfl rfl (pv_build_s (cs := [.int _ _, .int _ _, .int _ _, .int _ _, .int _ _, .int _ _, .int _ _, .int _ _, .int _ _, .int _ _, .int _ _, .slice _ _ _, .int _ _, .int _ _, .int _ _, .int _ _]) rfl rfl rfl) ?_
                refine xl_store rfl rfl (hv_storeA (vs := [.int _ _, .int _ _, .int _ _, .int _ _, .int _ _, .int _ _, .int _ _, .int _ _, .int _ _, .int _ _, .int _ _, .slice _ _ _, .int _ _, .int _ _, .int _ _, .int _ _]) rfl rfl rfl (by first | exact ld_blk hr rfl | exact hx | exact hz | exact ld_blk_a hr rfl rfl | exact ld_blk_a hx rfl rfl) rfl (by rfl) rfl) ?_
                rintro v33_1 H33_1 ⟨hU33_1, hZ33_1⟩
                have hX := hX.ofBut hU33_1.but hgz
                have hz := hU33_1.blk
                refine xl_pure rfl rfl rfl (pv_assign (v := .int _ _) rfl rfl) ?_
                refine xl_nil ?_
                refine xthen_normal ?_
                refine xc_ret ?_
                refine xthen_ret ?_
                refine fin_ret (resv2 rfl (rv_c (ty := 26) rfl (ld_blk_a hz rfl rfl)) (rv_t (v := .int _ _) rfl)) ?_
                exact ⟨9, J0, none, 0, rfl, (do_no hg htm (by rw [ha]; exact decide_eq_false (by omega))).symm, .inl rfl, hX⟩
            · skip
              refine xl_pure rfl rfl rfl (pv_move (v := .bool _) rfl rfl) ?_
              refine xl_skip rfl rfl rfl ?_
              refine xl_skip rfl rfl rfl ?_
              refine xl_skip rfl rfl rfl ?_
              refine xl_skip rfl rfl rfl ?_
              refine xl_pure rfl rfl rfl (pv_pick_f (v := .bool _) rfl rfl rfl) ?_
              refine xl_pure rfl rfl rfl (pv_assign (v := .bool _) rfl rfl) ?_
              refine xl_nil ?_
              refine xthen_normal ?_
              refine xc_seq ?_
              refine xc_region ?_
              refine xl_pure rfl rfl rfl (pv_fieldAddr rfl rfl) ?_
              refine xl_store rfl rfl (hv_store (vs := [.int _ _]) rfl rfl rfl (by first | exact ld_blk hr rfl | exact hx | exact hz | exact ld_blk_a hr rfl rfl | exact ld_blk_a hx rfl rfl) rfl (Nat.le_of_ble_eq_true rfl) rfl) ?_
              rintro v27_1 H27_1 ⟨hU27_1, hZ27_1⟩
              have hx := hU27_1.blk
              have hX := hX.ofBut hU27_1.but hgx
              have hr := hr.but hU27_1.but hnr
              have hz := hz.but hU27_1.but hnz
              refine xl_nil ?_
              refine xthen_normal ?_
              refine xc_region ?_
              refine xl_pure rfl rfl rfl (pv_fieldAddr rfl rfl) ?_
              refine xl_store rfl rfl (hv_store (vs := [.int _ _]) rfl rfl rfl (by first | exact ld_blk hr rfl | exact hx | exact hz | exact ld_blk_a hr rfl rfl | exact ld_blk_a hx rfl rfl) rfl (Nat.le_of_ble_eq_true rfl) rfl) ?_
              rintro v28_1 H28_1 ⟨hU28_1, hZ28_1⟩
              have hx := hU28_1.blk
              have hX := hX.ofBut hU28_1.but hgx
              have hr := hr.but hU28_1.but hnr
              have hz := hz.but hU28_1.but hnz
              refine xl_nil ?_
              refine xblock_normal ?_
              refine xthen_normal ?_
              refine xc_seq ?_
              refine xc_seq ?_
              refine xc_region ?_
              refine xl_pure rfl rfl rfl (pv_move (v := .bool _) rfl rfl) ?_
              refine xl_pure rfl rfl rfl (pv_not rfl rfl) ?_
              refine xl_nil ?_
              refine xthen_normal ?_
              refine xc_cond_t rfl ?_
              refine xc_seq ?_
              refine xc_region ?_
              refine xl_pure rfl rfl rfl (pv_build_s (cs := [.int _ _, .int _ _, .int _ _, .int _ _, .int _ _, .int _ _, .int _ _, .int _ _, .int _ _, .int _ _, .int _ _, .slice _ _ _, .int _ _, .int _ _, .int _ _, .int _ _]) rfl rfl rfl) ?_
              refine xl_store rfl rfl (hv_storeA (vs := [.int _ _, .int _ _, .int _ _, .int _ _, .int _ _, .int _ _, .int _ _, .int _ _, .int _ _, .int _ _, .int _ _, .slice _ _ _, .int _ _, .int _ _, .int _ _, .int _ _]) rfl rfl rfl (by first | exact ld_blk hr rfl | exact hx | exact hz | exact ld_blk_a hr rfl rfl | exact ld_blk_a hx rfl rfl) rfl (by rfl) rfl) ?_
              rintro v33_1 H33_1 ⟨hU33_1, hZ33_1⟩
              have hX := hX.ofBut hU33_1.but hgz
              have hz := hU33_1.blk
              refine xl_pure rfl rfl rfl (pv_assign (v := .int _ _) rfl rfl) ?_
              refine xl_nil ?_
              refine xthen_normal ?_
              refine xc_ret ?_
              refine xthen_ret ?_
              refine fin_ret (resv2 rfl (rv_c (ty := 26) rfl (ld_blk_a hz rfl rfl)) (rv_t (v := .int _ _) rfl)) ?_
              exact ⟨9, J0, none, 0, rfl, (do_no hg htm (by rw [ha]; exact decide_eq_false (by omega))).symm, .inl rfl, hX⟩
          · skip
            refine xl_pure rfl rfl rfl (pv_assign (v := .bool _) rfl rfl) ?_
            refine xl_nil ?_
            refine xthen_normal ?_
            refine xc_cond_f rfl ?_
            refine xc_seq ?_
            refine xc_region ?_
            refine xl_dec rfl rfl rfl (pv_eql rfl rfl rfl) (fun h29_0 => ?_) (fun h29_0 => ?_)
            · skip
              refine xl_pure rfl rfl rfl (pv_assign (v := .bool _) rfl rfl) ?_
              refine xl_nil ?_
              refine xthen_normal ?_
              refine xc_cond_t rfl ?_
              refine xc_seq ?_
              have ha : actB j what now = actB j 5 now := by rw [h29_0]
              refine xc_region ?_
              refine xl_pure rfl rfl rfl (pv_fieldAddr rfl rfl) ?_
              refine xl_light rfl rfl rfl (lv_load (v := .int _ _) rfl rfl (by first | exact ld_blk hr rfl | exact hx | exact hz | exact ld_blk_a hr rfl rfl | exact ld_blk_a hx rfl rfl)) ?_
              refine xl_dec rfl rfl rfl (pv_eql rfl rfl rfl) (fun h30_2 => ?_) (fun h30_2 => ?_)
              · skip
                refine xl_pure rfl rfl rfl (pv_assign (v := .bool _) rfl rfl) ?_
                refine xl_nil ?_
                refine xthen_normal ?_
                refine xc_region ?_
                refine xl_pure rfl rfl rfl (pv_fieldAddr rfl rfl) ?_
                refine xl_store rfl rfl (hv_store (vs := [.int _ _]) rfl rfl rfl (by first | exact ld_blk hr rfl | exact hx | exact hz | exact ld_blk_a hr rfl rfl | exact ld_blk_a hx rfl rfl) rfl (Nat.le_of_ble_eq_true rfl) rfl) ?_
                rintro v31_1 H31_1 ⟨hU31_1, hZ31_1⟩
                have hx := hU31_1.blk
                have hX := hX.ofBut hU31_1.but hgx
                have hr := hr.but hU31_1.but hnr
                have hz := hz.but hU31_1.but hnz
                refine xl_nil ?_
                refine xblock_normal ?_
                refine xthen_normal ?_
                refine xc_seq ?_
                refine xc_seq ?_
                refine xc_region ?_
                refine xl_pure rfl rfl rfl (pv_move (v := .bool _) rfl rfl) ?_
                refine xl_pure rfl rfl rfl (pv_not rfl rfl) ?_
                refine xl_nil ?_
                refine xthen_normal ?_
                refine xc_cond_f rfl ?_
                refine xc_skip ?_
                refine xthen_normal ?_
                refine xc_seq ?_
                refine xc_region ?_
                refine xl_light rfl rfl rfl (lv_load (v := .agg _) rfl rfl (by first | exact ld_blk hr rfl | exact hx | exact hz | exact ld_blk_a hr rfl rfl | exact ld_blk_a hx rfl rfl)) ?_
                refine xl_store rfl rfl (hv_storeA (vs := [.int _ _, .int _ _, .int _ _, .int _ _, .int _ _, .int _ _, .int _ _, .int _ _, .int _ _, .int _ _, .int _ _, .slice _ _ _, .int _ _, .int _ _, .int _ _, .int _ _]) rfl rfl rfl (by first | exact ld_blk hr rfl | exact hx | exact hz | exact ld_blk_a hr rfl rfl | exact ld_blk_a hx rfl rfl) rfl (by rfl) rfl) ?_
                rintro v34_1 H34_1 ⟨hU34_1, hZ34_1⟩
                have hX := hX.ofBut hU34_1.but hgz
                have hz := hU34_1.blk
                refine xl_pure rfl rfl rfl (pv_assign (v := .int _ _) rfl rfl) ?_
                refine xl_nil ?_
                refine xthen_normal ?_
                refine xc_ret ?_
                refine fin_ret (resv2 rfl (rv_c (ty := 26) rfl (ld_blk_a hz rfl rfl)) (rv_t (v := .int _ _) rfl)) ?_
                exact ⟨0, (actB j what now).2, a, c, by rw [ha]; rfl, (do_ok hg htm (by rw [ha]; exact decide_eq_true (by omega))).symm, .inr ⟨act_needs _ _ _, rfl⟩, hX⟩
              · skip
                refine xl_pure rfl rfl rfl (pv_assign (v := .bool _) rfl rfl) ?_
                refine xl_nil ?_
                refine xthen_normal ?_
                refine xc_region ?_
                refine xl_pure rfl rfl rfl (pv_fieldAddr rfl rfl) ?_
                refine xl_store rfl rfl (hv_store (vs := [.int _ _]) rfl rfl rfl (by first | exact ld_blk hr rfl | exact hx | exact hz | exact ld_blk_a hr rfl rfl | exact ld_blk_a hx rfl rfl) rfl (Nat.le_of_ble_eq_true rfl) rfl) ?_
                rintro v31_1 H31_1 ⟨hU31_1, hZ31_1⟩
                have hx := hU31_1.blk
                have hX := hX.ofBut hU31_1.but hgx
                have hr := hr.but hU31_1.but hnr
                have hz := hz.but hU31_1.but hnz
                refine xl_nil ?_
                refine xblock_normal ?_
                refine xthen_normal ?_
                refine xc_seq ?_
                refine xc_seq ?_
                refine xc_region ?_
                refine xl_pure rfl rfl rfl (pv_move (v := .bool _) rfl rfl) ?_
                refine xl_pure rfl rfl rfl (pv_not rfl rfl) ?_
                refine xl_nil ?_
                refine xthen_normal ?_
                refine xc_cond_t rfl ?_
                refine xc_seq ?_
                refine xc_region ?_
                refine xl_pure rfl rfl rfl (pv_build_s (cs := [.int _ _, .int _ _, .int _ _, .int _ _, .int _ _, .int _ _, .int _ _, .int _ _, .int _ _, .int _ _, .int _ _, .slice _ _ _, .int _ _, .int _ _, .int _ _, .int _ _]) rfl rfl rfl) ?_
                refine xl_store rfl rfl (hv_storeA (vs := [.int _ _, .int _ _, .int _ _, .int _ _, .int _ _, .int _ _, .int _ _, .int _ _, .int _ _, .int _ _, .int _ _, .slice _ _ _, .int _ _, .int _ _, .int _ _, .int _ _]) rfl rfl rfl (by first | exact ld_blk hr rfl | exact hx | exact hz | exact ld_blk_a hr rfl rfl | exact ld_blk_a hx rfl rfl) rfl (by rfl) rfl) ?_
                rintro v33_1 H33_1 ⟨hU33_1, hZ33_1⟩
                have hX := hX.ofBut hU33_1.but hgz
                have hz := hU33_1.blk
                refine xl_pure rfl rfl rfl (pv_assign (v := .int _ _) rfl rfl) ?_
                refine xl_nil ?_
                refine xthen_normal ?_
                refine xc_ret ?_
                refine xthen_ret ?_
                refine fin_ret (resv2 rfl (rv_c (ty := 26) rfl (ld_blk_a hz rfl rfl)) (rv_t (v := .int _ _) rfl)) ?_
                exact ⟨9, J0, none, 0, rfl, (do_no hg htm (by rw [ha]; exact decide_eq_false (by omega))).symm, .inl rfl, hX⟩
            · skip
              refine xl_pure rfl rfl rfl (pv_assign (v := .bool _) rfl rfl) ?_
              refine xl_nil ?_
              refine xthen_normal ?_
              refine xc_cond_f rfl ?_
              refine xc_seq ?_
              have ha := act6' (j := j) (now := now) h11_0 h16_0 h22_0 h25_0 h29_0
              refine xc_region ?_
              refine xl_pure rfl rfl rfl (pv_fieldAddr rfl rfl) ?_
              refine xl_light rfl rfl rfl (lv_load (v := .int _ _) rfl rfl (by first | exact ld_blk hr rfl | exact hx | exact hz | exact ld_blk_a hr rfl rfl | exact ld_blk_a hx rfl rfl)) ?_
              refine xl_dec rfl rfl rfl (pv_eql rfl rfl rfl) (fun h6_2 => ?_) (fun h6_2 => ?_)
              · skip
                refine xl_pure rfl rfl rfl (pv_move (v := .bool _) rfl rfl) ?_
                refine xl_skip rfl rfl rfl ?_
                refine xl_skip rfl rfl rfl ?_
                refine xl_skip rfl rfl rfl ?_
                refine xl_pure rfl rfl rfl (pv_pick_t (v := .bool _) rfl rfl rfl) ?_
                refine xl_pure rfl rfl rfl (pv_move (v := .bool _) rfl rfl) ?_
                refine xl_skip rfl rfl rfl ?_
                refine xl_skip rfl rfl rfl ?_
                refine xl_skip rfl rfl rfl ?_
                refine xl_pure rfl rfl rfl (pv_pick_t (v := .bool _) rfl rfl rfl) ?_
                refine xl_pure rfl rfl rfl (pv_assign (v := .bool _) rfl rfl) ?_
                refine xl_nil ?_
                refine xthen_normal ?_
                refine xc_seq ?_
                refine xc_region ?_
                refine xl_pure rfl rfl rfl (pv_fieldAddr rfl rfl) ?_
                refine xl_store rfl rfl (hv_store (vs := [.int _ _]) rfl rfl rfl (by first | exact ld_blk hr rfl | exact hx | exact hz | exact ld_blk_a hr rfl rfl | exact ld_blk_a hx rfl rfl) rfl (Nat.le_of_ble_eq_true rfl) rfl) ?_
                rintro v7_1 H7_1 ⟨hU7_1, hZ7_1⟩
                have hx := hU7_1.blk
                have hX := hX.ofBut hU7_1.but hgx
                have hr := hr.but hU7_1.but hnr
                have hz := hz.but hU7_1.but hnz
                refine xl_nil ?_
                refine xthen_normal ?_
                refine xc_seq ?_
                refine xc_region ?_
                refine xl_pure rfl rfl rfl (pv_fieldAddr rfl rfl) ?_
                refine xl_store rfl rfl (hv_store (vs := [.int _ _]) rfl rfl rfl (by first | exact ld_blk hr rfl | exact hx | exact hz | exact ld_blk_a hr rfl rfl | exact ld_blk_a hx rfl rfl) rfl (Nat.le_of_ble_eq_true rfl) rfl) ?_
                rintro v8_1 H8_1 ⟨hU8_1, hZ8_1⟩
                have hx := hU8_1.blk
                have hX := hX.ofBut hU8_1.but hgx
                have hr := hr.but hU8_1.but hnr
                have hz := hz.but hU8_1.but hnz
                refine xl_nil ?_
                refine xthen_normal ?_
                refine xc_seq ?_
                refine xc_region ?_
                refine xl_pure rfl rfl rfl (pv_fieldAddr rfl rfl) ?_
                refine xl_store rfl rfl (hv_store (vs := [.int _ _]) rfl rfl rfl (by first | exact ld_blk hr rfl | exact hx | exact hz | exact ld_blk_a hr rfl rfl | exact ld_blk_a hx rfl rfl) rfl (Nat.le_of_ble_eq_true rfl) rfl) ?_
                rintro v9_1 H9_1 ⟨hU9_1, hZ9_1⟩
                have hx := hU9_1.blk
                have hX := hX.ofBut hU9_1.but hgx
                have hr := hr.but hU9_1.but hnr
                have hz := hz.but hU9_1.but hnz
                refine xl_nil ?_
                refine xthen_normal ?_
                refine xc_region ?_
                refine xl_pure rfl rfl rfl (pv_fieldAddr rfl rfl) ?_
                refine xl_store rfl rfl (hv_store (vs := [.int _ _]) rfl rfl rfl (by first | exact ld_blk hr rfl | exact hx | exact hz | exact ld_blk_a hr rfl rfl | exact ld_blk_a hx rfl rfl) rfl (Nat.le_of_ble_eq_true rfl) rfl) ?_
                rintro v10_1 H10_1 ⟨hU10_1, hZ10_1⟩
                have hx := hU10_1.blk
                have hX := hX.ofBut hU10_1.but hgx
                have hr := hr.but hU10_1.but hnr
                have hz := hz.but hU10_1.but hnz
                refine xl_nil ?_
                refine xblock_normal ?_
                refine xthen_normal ?_
                refine xc_seq ?_
                refine xc_seq ?_
                refine xc_region ?_
                refine xl_pure rfl rfl rfl (pv_move (v := .bool _) rfl rfl) ?_
                refine xl_pure rfl rfl rfl (pv_not rfl rfl) ?_
                refine xl_nil ?_
                refine xthen_normal ?_
                refine xc_cond_f rfl ?_
                refine xc_skip ?_
                refine xthen_normal ?_
                refine xc_seq ?_
                refine xc_region ?_
                refine xl_light rfl rfl rfl (lv_load (v := .agg _) rfl rfl (by first | exact ld_blk hr rfl | exact hx | exact hz | exact ld_blk_a hr rfl rfl | exact ld_blk_a hx rfl rfl)) ?_
                refine xl_store rfl rfl (hv_storeA (vs := [.int _ _, .int _ _, .int _ _, .int _ _, .int _ _, .int _ _, .int _ _, .int _ _, .int _ _, .int _ _, .int _ _, .slice _ _ _, .int _ _, .int _ _, .int _ _, .int _ _]) rfl rfl rfl (by first | exact ld_blk hr rfl | exact hx | exact hz | exact ld_blk_a hr rfl rfl | exact ld_blk_a hx rfl rfl) rfl (by rfl) rfl) ?_
                rintro v34_1 H34_1 ⟨hU34_1, hZ34_1⟩
                have hX := hX.ofBut hU34_1.but hgz
                have hz := hU34_1.blk
                refine xl_pure rfl rfl rfl (pv_assign (v := .int _ _) rfl rfl) ?_
                refine xl_nil ?_
                refine xthen_normal ?_
                refine xc_ret ?_
                refine fin_ret (resv2 rfl (rv_c (ty := 26) rfl (ld_blk_a hz rfl rfl)) (rv_t (v := .int _ _) rfl)) ?_
                exact ⟨0, (actB j what now).2, a, c, by rw [ha]; rfl, (do_ok hg htm (by rw [ha]; exact decide_eq_true (by omega))).symm, .inr ⟨act_needs _ _ _, rfl⟩, hX⟩
              · skip
                refine xl_pure rfl rfl rfl (pv_move (v := .bool _) rfl rfl) ?_
                refine xl_pure rfl rfl rfl (pv_fieldAddr rfl rfl) ?_
                refine xl_light rfl rfl rfl (lv_load (v := .int _ _) rfl rfl (by first | exact ld_blk hr rfl | exact hx | exact hz | exact ld_blk_a hr rfl rfl | exact ld_blk_a hx rfl rfl)) ?_
                refine xl_dec rfl rfl rfl (pv_eql rfl rfl rfl) (fun h6_6 => ?_) (fun h6_6 => ?_)
                · skip
                  refine xl_pure rfl rfl rfl (pv_pick_f (v := .bool _) rfl rfl rfl) ?_
                  refine xl_pure rfl rfl rfl (pv_move (v := .bool _) rfl rfl) ?_
                  refine xl_skip rfl rfl rfl ?_
                  refine xl_skip rfl rfl rfl ?_
                  refine xl_skip rfl rfl rfl ?_
                  refine xl_pure rfl rfl rfl (pv_pick_t (v := .bool _) rfl rfl rfl) ?_
                  refine xl_pure rfl rfl rfl (pv_assign (v := .bool _) rfl rfl) ?_
                  refine xl_nil ?_
                  refine xthen_normal ?_
                  refine xc_seq ?_
                  refine xc_region ?_
                  refine xl_pure rfl rfl rfl (pv_fieldAddr rfl rfl) ?_
                  refine xl_store rfl rfl (hv_store (vs := [.int _ _]) rfl rfl rfl (by first | exact ld_blk hr rfl | exact hx | exact hz | exact ld_blk_a hr rfl rfl | exact ld_blk_a hx rfl rfl) rfl (Nat.le_of_ble_eq_true rfl) rfl) ?_
                  rintro v7_1 H7_1 ⟨hU7_1, hZ7_1⟩
                  have hx := hU7_1.blk
                  have hX := hX.ofBut hU7_1.but hgx
                  have hr := hr.but hU7_1.but hnr
                  have hz := hz.but hU7_1.but hnz
                  refine xl_nil ?_
                  refine xthen_normal ?_
                  refine xc_seq ?_
                  refine xc_region ?_
                  refine xl_pure rfl rfl rfl (pv_fieldAddr rfl rfl) ?_
                  refine xl_store rfl rfl (hv_store (vs := [.int _ _]) rfl rfl rfl (by first | exact ld_blk hr rfl | exact hx | exact hz | exact ld_blk_a hr rfl rfl | exact ld_blk_a hx rfl rfl) rfl (Nat.le_of_ble_eq_true rfl) rfl) ?_
                  rintro v8_1 H8_1 ⟨hU8_1, hZ8_1⟩
                  have hx := hU8_1.blk
                  have hX := hX.ofBut hU8_1.but hgx
                  have hr := hr.but hU8_1.but hnr
                  have hz := hz.but hU8_1.but hnz
                  refine xl_nil ?_
                  refine xthen_normal ?_
                  refine xc_seq ?_
                  refine xc_region ?_
                  refine xl_pure rfl rfl rfl (pv_fieldAddr rfl rfl) ?_
                  refine xl_store rfl rfl (hv_store (vs := [.int _ _]) rfl rfl rfl (by first | exact ld_blk hr rfl | exact hx | exact hz | exact ld_blk_a hr rfl rfl | exact ld_blk_a hx rfl rfl) rfl (Nat.le_of_ble_eq_true rfl) rfl) ?_
                  rintro v9_1 H9_1 ⟨hU9_1, hZ9_1⟩
                  have hx := hU9_1.blk
                  have hX := hX.ofBut hU9_1.but hgx
                  have hr := hr.but hU9_1.but hnr
                  have hz := hz.but hU9_1.but hnz
                  refine xl_nil ?_
                  refine xthen_normal ?_
                  refine xc_region ?_
                  refine xl_pure rfl rfl rfl (pv_fieldAddr rfl rfl) ?_
                  refine xl_store rfl rfl (hv_store (vs := [.int _ _]) rfl rfl rfl (by first | exact ld_blk hr rfl | exact hx | exact hz | exact ld_blk_a hr rfl rfl | exact ld_blk_a hx rfl rfl) rfl (Nat.le_of_ble_eq_true rfl) rfl) ?_
                  rintro v10_1 H10_1 ⟨hU10_1, hZ10_1⟩
                  have hx := hU10_1.blk
                  have hX := hX.ofBut hU10_1.but hgx
                  have hr := hr.but hU10_1.but hnr
                  have hz := hz.but hU10_1.but hnz
                  refine xl_nil ?_
                  refine xblock_normal ?_
                  refine xthen_normal ?_
                  refine xc_seq ?_
                  refine xc_seq ?_
                  refine xc_region ?_
                  refine xl_pure rfl rfl rfl (pv_move (v := .bool _) rfl rfl) ?_
                  refine xl_pure rfl rfl rfl (pv_not rfl rfl) ?_
                  refine xl_nil ?_
                  refine xthen_normal ?_
                  refine xc_cond_f rfl ?_
                  refine xc_skip ?_
                  refine xthen_normal ?_
                  refine xc_seq ?_
                  refine xc_region ?_
                  refine xl_light rfl rfl rfl (lv_load (v := .agg _) rfl rfl (by first | exact ld_blk hr rfl | exact hx | exact hz | exact ld_blk_a hr rfl rfl | exact ld_blk_a hx rfl rfl)) ?_
                  refine xl_store rfl rfl (hv_storeA (vs := [.int _ _, .int _ _, .int _ _, .int _ _, .int _ _, .int _ _, .int _ _, .int _ _, .int _ _, .int _ _, .int _ _, .slice _ _ _, .int _ _, .int _ _, .int _ _, .int _ _]) rfl rfl rfl (by first | exact ld_blk hr rfl | exact hx | exact hz | exact ld_blk_a hr rfl rfl | exact ld_blk_a hx rfl rfl) rfl (by rfl) rfl) ?_
                  rintro v34_1 H34_1 ⟨hU34_1, hZ34_1⟩
                  have hX := hX.ofBut hU34_1.but hgz
                  have hz := hU34_1.blk
                  refine xl_pure rfl rfl rfl (pv_assign (v := .int _ _) rfl rfl) ?_
                  refine xl_nil ?_
                  refine xthen_normal ?_
                  refine xc_ret ?_
                  refine fin_ret (resv2 rfl (rv_c (ty := 26) rfl (ld_blk_a hz rfl rfl)) (rv_t (v := .int _ _) rfl)) ?_
                  exact ⟨0, (actB j what now).2, a, c, by rw [ha]; rfl, (do_ok hg htm (by rw [ha]; exact decide_eq_true (by omega))).symm, .inr ⟨act_needs _ _ _, rfl⟩, hX⟩
                · skip
                  refine xl_pure rfl rfl rfl (pv_pick_f (v := .bool _) rfl rfl rfl) ?_
                  refine xl_pure rfl rfl rfl (pv_move (v := .bool _) rfl rfl) ?_
                  refine xl_pure rfl rfl rfl (pv_fieldAddr rfl rfl) ?_
                  refine xl_light rfl rfl rfl (lv_load (v := .int _ _) rfl rfl (by first | exact ld_blk hr rfl | exact hx | exact hz | exact ld_blk_a hr rfl rfl | exact ld_blk_a hx rfl rfl)) ?_
                  refine xl_dec rfl rfl rfl (pv_eql rfl rfl rfl) (fun h6_11 => ?_) (fun h6_11 => ?_)
                  · skip
                    refine xl_pure rfl rfl rfl (pv_pick_f (v := .bool _) rfl rfl rfl) ?_
                    refine xl_pure rfl rfl rfl (pv_assign (v := .bool _) rfl rfl) ?_
                    refine xl_nil ?_
                    refine xthen_normal ?_
                    refine xc_seq ?_
                    refine xc_region ?_
                    refine xl_pure rfl rfl rfl (pv_fieldAddr rfl rfl) ?_
                    refine xl_store rfl rfl (hv_store (vs := [.int _ _]) rfl rfl rfl (by first | exact ld_blk hr rfl | exact hx | exact hz | exact ld_blk_a hr rfl rfl | exact ld_blk_a hx rfl rfl) rfl (Nat.le_of_ble_eq_true rfl) rfl) ?_
                    rintro v7_1 H7_1 ⟨hU7_1, hZ7_1⟩
                    have hx := hU7_1.blk
                    have hX := hX.ofBut hU7_1.but hgx
                    have hr := hr.but hU7_1.but hnr
                    have hz := hz.but hU7_1.but hnz
                    refine xl_nil ?_
                    refine xthen_normal ?_
                    refine xc_seq ?_
                    refine xc_region ?_
                    refine xl_pure rfl rfl rfl (pv_fieldAddr rfl rfl) ?_
                    refine xl_store rfl rfl (hv_store (vs := [.int _ _]) rfl rfl rfl (by first | exact ld_blk hr rfl | exact hx | exact hz | exact ld_blk_a hr rfl rfl | exact ld_blk_a hx rfl rfl) rfl (Nat.le_of_ble_eq_true rfl) rfl) ?_
                    rintro v8_1 H8_1 ⟨hU8_1, hZ8_1⟩
                    have hx := hU8_1.blk
                    have hX := hX.ofBut hU8_1.but hgx
                    have hr := hr.but hU8_1.but hnr
                    have hz := hz.but hU8_1.but hnz
                    refine xl_nil ?_
                    refine xthen_normal ?_
                    refine xc_seq ?_
                    refine xc_region ?_
                    refine xl_pure rfl rfl rfl (pv_fieldAddr rfl rfl) ?_
                    refine xl_store rfl rfl (hv_store (vs := [.int _ _]) rfl rfl rfl (by first | exact ld_blk hr rfl | exact hx | exact hz | exact ld_blk_a hr rfl rfl | exact ld_blk_a hx rfl rfl) rfl (Nat.le_of_ble_eq_true rfl) rfl) ?_
                    rintro v9_1 H9_1 ⟨hU9_1, hZ9_1⟩
                    have hx := hU9_1.blk
                    have hX := hX.ofBut hU9_1.but hgx
                    have hr := hr.but hU9_1.but hnr
                    have hz := hz.but hU9_1.but hnz
                    refine xl_nil ?_
                    refine xthen_normal ?_
                    refine xc_region ?_
                    refine xl_pure rfl rfl rfl (pv_fieldAddr rfl rfl) ?_
                    refine xl_store rfl rfl (hv_store (vs := [.int _ _]) rfl rfl rfl (by first | exact ld_blk hr rfl | exact hx | exact hz | exact ld_blk_a hr rfl rfl | exact ld_blk_a hx rfl rfl) rfl (Nat.le_of_ble_eq_true rfl) rfl) ?_
                    rintro v10_1 H10_1 ⟨hU10_1, hZ10_1⟩
                    have hx := hU10_1.blk
                    have hX := hX.ofBut hU10_1.but hgx
                    have hr := hr.but hU10_1.but hnr
                    have hz := hz.but hU10_1.but hnz
                    refine xl_nil ?_
                    refine xblock_normal ?_
                    refine xthen_normal ?_
                    refine xc_seq ?_
                    refine xc_seq ?_
                    refine xc_region ?_
                    refine xl_pure rfl rfl rfl (pv_move (v := .bool _) rfl rfl) ?_
                    refine xl_pure rfl rfl rfl (pv_not rfl rfl) ?_
                    refine xl_nil ?_
                    refine xthen_normal ?_
                    refine xc_cond_f rfl ?_
                    refine xc_skip ?_
                    refine xthen_normal ?_
                    refine xc_seq ?_
                    refine xc_region ?_
                    refine xl_light rfl rfl rfl (lv_load (v := .agg _) rfl rfl (by first | exact ld_blk hr rfl | exact hx | exact hz | exact ld_blk_a hr rfl rfl | exact ld_blk_a hx rfl rfl)) ?_
                    refine xl_store rfl rfl (hv_storeA (vs := [.int _ _, .int _ _, .int _ _, .int _ _, .int _ _, .int _ _, .int _ _, .int _ _, .int _ _, .int _ _, .int _ _, .slice _ _ _, .int _ _, .int _ _, .int _ _, .int _ _]) rfl rfl rfl (by first | exact ld_blk hr rfl | exact hx | exact hz | exact ld_blk_a hr rfl rfl | exact ld_blk_a hx rfl rfl) rfl (by rfl) rfl) ?_
                    rintro v34_1 H34_1 ⟨hU34_1, hZ34_1⟩
                    have hX := hX.ofBut hU34_1.but hgz
                    have hz := hU34_1.blk
                    refine xl_pure rfl rfl rfl (pv_assign (v := .int _ _) rfl rfl) ?_
                    refine xl_nil ?_
                    refine xthen_normal ?_
                    refine xc_ret ?_
                    refine fin_ret (resv2 rfl (rv_c (ty := 26) rfl (ld_blk_a hz rfl rfl)) (rv_t (v := .int _ _) rfl)) ?_
                    exact ⟨0, (actB j what now).2, a, c, by rw [ha]; rfl, (do_ok hg htm (by rw [ha]; exact decide_eq_true (by omega))).symm, .inr ⟨act_needs _ _ _, rfl⟩, hX⟩
                  · skip
                    refine xl_pure rfl rfl rfl (pv_pick_f (v := .bool _) rfl rfl rfl) ?_
                    refine xl_pure rfl rfl rfl (pv_assign (v := .bool _) rfl rfl) ?_
                    refine xl_nil ?_
                    refine xthen_normal ?_
                    refine xc_seq ?_
                    refine xc_region ?_
                    refine xl_pure rfl rfl rfl (pv_fieldAddr rfl rfl) ?_
                    refine xl_store rfl rfl (hv_store (vs := [.int _ _]) rfl rfl rfl (by first | exact ld_blk hr rfl | exact hx | exact hz | exact ld_blk_a hr rfl rfl | exact ld_blk_a hx rfl rfl) rfl (Nat.le_of_ble_eq_true rfl) rfl) ?_
                    rintro v7_1 H7_1 ⟨hU7_1, hZ7_1⟩
                    have hx := hU7_1.blk
                    have hX := hX.ofBut hU7_1.but hgx
                    have hr := hr.but hU7_1.but hnr
                    have hz := hz.but hU7_1.but hnz
                    refine xl_nil ?_
                    refine xthen_normal ?_
                    refine xc_seq ?_
                    refine xc_region ?_
                    refine xl_pure rfl rfl rfl (pv_fieldAddr rfl rfl) ?_
                    refine xl_store rfl rfl (hv_store (vs := [.int _ _]) rfl rfl rfl (by first | exact ld_blk hr rfl | exact hx | exact hz | exact ld_blk_a hr rfl rfl | exact ld_blk_a hx rfl rfl) rfl (Nat.le_of_ble_eq_true rfl) rfl) ?_
                    rintro v8_1 H8_1 ⟨hU8_1, hZ8_1⟩
                    have hx := hU8_1.blk
                    have hX := hX.ofBut hU8_1.but hgx
                    have hr := hr.but hU8_1.but hnr
                    have hz := hz.but hU8_1.but hnz
                    refine xl_nil ?_
                    refine xthen_normal ?_
                    refine xc_seq ?_
                    refine xc_region ?_
                    refine xl_pure rfl rfl rfl (pv_fieldAddr rfl rfl) ?_
                    refine xl_store rfl rfl (hv_store (vs := [.int _ _]) rfl rfl rfl (by first | exact ld_blk hr rfl | exact hx | exact hz | exact ld_blk_a hr rfl rfl | exact ld_blk_a hx rfl rfl) rfl (Nat.le_of_ble_eq_true rfl) rfl) ?_
                    rintro v9_1 H9_1 ⟨hU9_1, hZ9_1⟩
                    have hx := hU9_1.blk
                    have hX := hX.ofBut hU9_1.but hgx
                    have hr := hr.but hU9_1.but hnr
                    have hz := hz.but hU9_1.but hnz
                    refine xl_nil ?_
                    refine xthen_normal ?_
                    refine xc_region ?_
                    refine xl_pure rfl rfl rfl (pv_fieldAddr rfl rfl) ?_
                    refine xl_store rfl rfl (hv_store (vs := [.int _ _]) rfl rfl rfl (by first | exact ld_blk hr rfl | exact hx | exact hz | exact ld_blk_a hr rfl rfl | exact ld_blk_a hx rfl rfl) rfl (Nat.le_of_ble_eq_true rfl) rfl) ?_
                    rintro v10_1 H10_1 ⟨hU10_1, hZ10_1⟩
                    have hx := hU10_1.blk
                    have hX := hX.ofBut hU10_1.but hgx
                    have hr := hr.but hU10_1.but hnr
                    have hz := hz.but hU10_1.but hnz
                    refine xl_nil ?_
                    refine xblock_normal ?_
                    refine xthen_normal ?_
                    refine xc_seq ?_
                    refine xc_seq ?_
                    refine xc_region ?_
                    refine xl_pure rfl rfl rfl (pv_move (v := .bool _) rfl rfl) ?_
                    refine xl_pure rfl rfl rfl (pv_not rfl rfl) ?_
                    refine xl_nil ?_
                    refine xthen_normal ?_
                    refine xc_cond_t rfl ?_
                    refine xc_seq ?_
                    refine xc_region ?_
                    refine xl_pure rfl rfl rfl (pv_build_s (cs := [.int _ _, .int _ _, .int _ _, .int _ _, .int _ _, .int _ _, .int _ _, .int _ _, .int _ _, .int _ _, .int _ _, .slice _ _ _, .int _ _, .int _ _, .int _ _, .int _ _]) rfl rfl rfl) ?_
                    refine xl_store rfl rfl (hv_storeA (vs := [.int _ _, .int _ _, .int _ _, .int _ _, .int _ _, .int _ _, .int _ _, .int _ _, .int _ _, .int _ _, .int _ _, .slice _ _ _, .int _ _, .int _ _, .int _ _, .int _ _]) rfl rfl rfl (by first | exact ld_blk hr rfl | exact hx | exact hz | exact ld_blk_a hr rfl rfl | exact ld_blk_a hx rfl rfl) rfl (by rfl) rfl) ?_
                    rintro v33_1 H33_1 ⟨hU33_1, hZ33_1⟩
                    have hX := hX.ofBut hU33_1.but hgz
                    have hz := hU33_1.blk
                    refine xl_pure rfl rfl rfl (pv_assign (v := .int _ _) rfl rfl) ?_
                    refine xl_nil ?_
                    refine xthen_normal ?_
                    refine xc_ret ?_
                    refine xthen_ret ?_
                    refine fin_ret (resv2 rfl (rv_c (ty := 26) rfl (ld_blk_a hz rfl rfl)) (rv_t (v := .int _ _) rfl)) ?_
                    exact ⟨9, J0, none, 0, rfl, (do_no hg htm (by rw [ha]; exact decide_eq_false (by omega))).symm, .inl rfl, hX⟩
end Go.XG
