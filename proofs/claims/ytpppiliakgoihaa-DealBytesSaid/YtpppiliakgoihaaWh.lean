/-
  Walks of the seat's functions over the logic XG: each function, what it computes. Printed by a program out of wip/walks.py.
-/
import Derived.Test.YtpppiliakgoihaaI
import Derived.Test.YtpppiliakgoihaaG
import Derived.Test.YtpppiliakgoihaaP
import Derived.Test.YtpppiliakgoihaaWa
import Derived.Test.YtpppiliakgoihaaWb
import Derived.Test.YtpppiliakgoihaaWc
import Derived.Test.YtpppiliakgoihaaWd
import Derived.Test.YtpppiliakgoihaaQ
import Derived.Test.YtpppiliakgoihaaR
import Derived.Test.YtpppiliakgoihaaXg
import Derived.Test.YtpppiliakgoihaaWe
import Derived.Test.YtpppiliakgoihaaWf
import Derived.Test.YtpppiliakgoihaaWg
namespace Go.XG
open Go.Proofs
set_option maxRecDepth 4000
set_option maxHeartbeats 4000000
theorem c10 {O : Outer} {H : Heap} (d : D) (a b : Option Addr) (c e : Nat) (now t i : Int) (hs : Stks H a d.gives) (hs' : Stks H b d.wants) (hl : d.gives.length < 1099511627776) (hl' : d.wants.length < 1099511627776) :
    FnC Try.prog 10 #[.agg (dcs d a b c e).toArray, .int .i64 now, .int .i64 t, .int .i64 i] O H (fun v H' => ∃ r x a' b' c' e', v = .tuple #[dv x a' b' c' e', .int .i64 r] ∧ (r, x) = takeD d now t i ∧ Res d x a b a' b' ∧ Ext H H') := by
  refine fn_enter (A := [.agg (dcs d a b c e).toArray, .int .i64 now, .int .i64 t, .int .i64 i]) Try.func10 rfl rfl ?_
  refine xc_seq ?_
  refine xc_region ?_
  refine xl_heavy rfl rfl rfl (hv_box rfl rfl) ?_
  rintro v0_0 H0_0 ⟨b0_0, rfl, hN0_0⟩
  have hr := hN0_0.blk
  have hX := hN0_0.ext
  have hge := hN0_0.ge
  refine xl_heavy rfl rfl rfl (hv_alloc rfl rfl) ?_
  rintro v0_1 H0_1 ⟨b0_1, rfl, hN0_1⟩
  have hne := hr.fresh hN0_1.ge
  have hr := hr.ext hN0_1.ext
  have hgz := Nat.le_trans hX.size hN0_1.ge
  have hX := hX.trans hN0_1.ext
  have hz := hN0_1.blk
  refine xl_pure rfl rfl rfl (pv_assign (v := .int _ _) rfl rfl) ?_
  refine xl_nil ?_
  refine xthen_normal ?_
  refine xc_seq ?_
  refine xc_block ?_
  refine xc_seq ?_
  refine xc_region ?_
  refine xl_light rfl rfl rfl (lv_load (v := .agg _) rfl rfl (by first | exact ld_blk_a hr rfl rfl | exact hz | exact ld_blk hr rfl | exact hr)) ?_
  refine xl_heavy rfl rfl rfl (hv_call (g := 20) rfl rfl (c20 d a b c e (hs.ext hX) (hs'.ext hX) hl hl') rfl) ?_
  rintro v1_1 H1_1 ⟨e1_1, rfl, hg1_1, hE1_1⟩
  have hX := hX.trans hE1_1
  have hr := hr.ext hE1_1
  try have hz := hz.ext hE1_1
  rcases hg1_1 with ⟨hg1_1, rfl⟩ | ⟨hg1_1, rfl⟩
  · skip
    refine xl_ndec rfl rfl rfl (pv_neq rfl rfl rfl) (fun h1_2 => ?_) (fun h1_2 => ?_)
    · skip
      refine xl_pure rfl rfl rfl (pv_move (v := .bool _) rfl rfl) ?_
      refine xl_pure rfl rfl rfl (pv_move (v := .int _ _) rfl rfl) ?_
      refine xl_heavy rfl rfl rfl (hv_call (g := 30) rfl rfl (c30 _ _ _) rfl) ?_
      rintro v1_5 H1_5 ⟨r1_5, rfl, hb1_5, rfl⟩
      cases r1_5
      · skip
        replace hb1_5 := mt hb1_5.2 (by decide)
        refine xl_pure rfl rfl rfl (pv_not rfl rfl) ?_
        refine xl_pure rfl rfl rfl (pv_pick_f (v := .bool _) rfl rfl rfl) ?_
        refine xl_pure rfl rfl rfl (pv_move (v := .bool _) rfl rfl) ?_
        refine xl_skip rfl rfl rfl ?_
        refine xl_skip rfl rfl rfl ?_
        refine xl_skip rfl rfl rfl ?_
        refine xl_pure rfl rfl rfl (pv_pick_t (v := .bool _) rfl rfl rfl) ?_
        refine xl_pure rfl rfl rfl (pv_move (v := .bool _) rfl rfl) ?_
        refine xl_skip rfl rfl rfl ?_
        refine xl_skip rfl rfl rfl ?_
        refine xl_skip rfl rfl rfl ?_
        refine xl_skip rfl rfl rfl ?_
        refine xl_pure rfl rfl rfl (pv_pick_t (v := .bool _) rfl rfl rfl) ?_
        refine xl_pure rfl rfl rfl (pv_move (v := .bool _) rfl rfl) ?_
        refine xl_skip rfl rfl rfl ?_
        refine xl_skip rfl rfl rfl ?_
        refine xl_skip rfl rfl rfl ?_
        refine xl_pure rfl rfl rfl (pv_pick_t (v := .bool _) rfl rfl rfl) ?_
        refine xl_pure rfl rfl rfl (pv_assign (v := .bool _) rfl rfl) ?_
        refine xl_nil ?_
        refine xthen_normal ?_
        refine xc_cond_t rfl ?_
        refine xc_seq ?_
        refine xc_region ?_
        refine xl_pure rfl rfl rfl (pv_build_s (cs := [.int _ _, .int _ _, .int _ _, .int _ _, .int _ _, .int _ _, .int _ _, .int _ _, .int _ _, .int _ _, .int _ _, .int _ _, .int _ _, .slice _ _ _, .slice _ _ _, .int _ _, .int _ _, .int _ _, .int _ _]) rfl rfl rfl) ?_
        refine xl_store rfl rfl (hv_storeA (vs := [.int _ _, .int _ _, .int _ _, .int _ _, .int _ _, .int _ _, .int _ _, .int _ _, .int _ _, .int _ _, .int _ _, .int _ _, .int _ _, .slice _ _ _, .slice _ _ _, .int _ _, .int _ _, .int _ _, .int _ _]) rfl rfl rfl (by first | exact ld_blk_a hr rfl rfl | exact hz | exact ld_blk hr rfl | exact hr) rfl (by rfl) rfl) ?_
        rintro v2_1 H2_1 ⟨hU2_1, hZ2_1⟩
        have hX := hX.ofBut hU2_1.but hgz
        have hz := hU2_1.blk
        refine xl_pure rfl rfl rfl (pv_assign (v := .int _ _) rfl rfl) ?_
        refine xl_nil ?_
        refine xthen_normal ?_
        refine xc_ret ?_
        refine xblock_ret ?_
        refine xthen_ret ?_
        refine fin_ret (resv2 rfl (rv_c (ty := 24) rfl (ld_blk_a hz rfl rfl)) (rv_t (v := .int _ _) rfl)) ?_
        first
          | exact ⟨1, D0, none, none, 0, 0, rfl, (take_bad (fun h => hg1_1 h.1)).symm, res0', hX⟩
          | exact ⟨1, D0, none, none, 0, 0, rfl, (take_bad (fun h => by have h := h.2; unfold TakeArgs Now at h; omega)).symm, res0', hX⟩
      · skip
        replace hb1_5 := hb1_5.1 rfl
        refine xl_pure rfl rfl rfl (pv_not rfl rfl) ?_
        refine xl_pure rfl rfl rfl (pv_pick_f (v := .bool _) rfl rfl rfl) ?_
        refine xl_pure rfl rfl rfl (pv_move (v := .bool _) rfl rfl) ?_
        refine xl_pure rfl rfl rfl (pv_move (v := .int _ _) rfl rfl) ?_
        refine xl_heavy rfl rfl rfl (hv_call (g := 30) rfl rfl (c30 _ _ _) rfl) ?_
        rintro v1_10 H1_10 ⟨r1_10, rfl, hb1_10, rfl⟩
        cases r1_10
        · skip
          replace hb1_10 := mt hb1_10.2 (by decide)
          refine xl_pure rfl rfl rfl (pv_not rfl rfl) ?_
          refine xl_pure rfl rfl rfl (pv_pick_f (v := .bool _) rfl rfl rfl) ?_
          refine xl_pure rfl rfl rfl (pv_move (v := .bool _) rfl rfl) ?_
          refine xl_skip rfl rfl rfl ?_
          refine xl_skip rfl rfl rfl ?_
          refine xl_skip rfl rfl rfl ?_
          refine xl_skip rfl rfl rfl ?_
          refine xl_pure rfl rfl rfl (pv_pick_t (v := .bool _) rfl rfl rfl) ?_
          refine xl_pure rfl rfl rfl (pv_move (v := .bool _) rfl rfl) ?_
          refine xl_skip rfl rfl rfl ?_
          refine xl_skip rfl rfl rfl ?_
          refine xl_skip rfl rfl rfl ?_
          refine xl_pure rfl rfl rfl (pv_pick_t (v := .bool _) rfl rfl rfl) ?_
          refine xl_pure rfl rfl rfl (pv_assign (v := .bool _) rfl rfl) ?_
          refine xl_nil ?_
          refine xthen_normal ?_
          refine xc_cond_t rfl ?_
          refine xc_seq ?_
          refine xc_region ?_
          refine xl_pure rfl rfl rfl (pv_build_s (cs := [.int _ _, .int _ _, .int _ _, .int _ _, .int _ _, .int _ _, .int _ _, .int _ _, .int _ _, .int _ _, .int _ _, .int _ _, .int _ _, .slice _ _ _, .slice _ _ _, .int _ _, .int _ _, .int _ _, .int _ _]) rfl rfl rfl) ?_
          refine xl_store rfl rfl (hv_storeA (vs := [.int _ _, .int _ _, .int _ _, .int _ _, .int _ _, .int _ _, .int _ _, .int _ _, .int _ _, .int _ _, .int _ _, .int _ _, .int _ _, .slice _ _ _, .slice _ _ _, .int _ _, .int _ _, .int _ _, .int _ _]) rfl rfl rfl (by first | exact ld_blk_a hr rfl rfl | exact hz | exact ld_blk hr rfl | exact hr) rfl (by rfl) rfl) ?_
          rintro v2_1 H2_1 ⟨hU2_1, hZ2_1⟩
          have hX := hX.ofBut hU2_1.but hgz
          have hz := hU2_1.blk
          refine xl_pure rfl rfl rfl (pv_assign (v := .int _ _) rfl rfl) ?_
          refine xl_nil ?_
          refine xthen_normal ?_
          refine xc_ret ?_
          refine xblock_ret ?_
          refine xthen_ret ?_
          refine fin_ret (resv2 rfl (rv_c (ty := 24) rfl (ld_blk_a hz rfl rfl)) (rv_t (v := .int _ _) rfl)) ?_
          first
            | exact ⟨1, D0, none, none, 0, 0, rfl, (take_bad (fun h => hg1_1 h.1)).symm, res0', hX⟩
            | exact ⟨1, D0, none, none, 0, 0, rfl, (take_bad (fun h => by have h := h.2; unfold TakeArgs Now at h; omega)).symm, res0', hX⟩
        · skip
          replace hb1_10 := hb1_10.1 rfl
          refine xl_pure rfl rfl rfl (pv_not rfl rfl) ?_
          refine xl_pure rfl rfl rfl (pv_pick_f (v := .bool _) rfl rfl rfl) ?_
          refine xl_pure rfl rfl rfl (pv_move (v := .bool _) rfl rfl) ?_
          refine xl_pure rfl rfl rfl (pv_move (v := .int _ _) rfl rfl) ?_
          refine xl_pure rfl rfl rfl (pv_fieldAddr rfl rfl) ?_
          refine xl_light rfl rfl rfl (lv_load (v := .int _ _) rfl rfl (by first | exact ld_blk_a hr rfl rfl | exact hz | exact ld_blk hr rfl | exact hr)) ?_
          refine xl_dec rfl rfl rfl (pv_eql rfl rfl rfl) (fun h1_17 => ?_) (fun h1_17 => ?_)
          · skip
            refine xl_pure rfl rfl rfl (pv_pick_f (v := .bool _) rfl rfl rfl) ?_
            refine xl_pure rfl rfl rfl (pv_move (v := .bool _) rfl rfl) ?_
            refine xl_skip rfl rfl rfl ?_
            refine xl_skip rfl rfl rfl ?_
            refine xl_skip rfl rfl rfl ?_
            refine xl_pure rfl rfl rfl (pv_pick_t (v := .bool _) rfl rfl rfl) ?_
            refine xl_pure rfl rfl rfl (pv_assign (v := .bool _) rfl rfl) ?_
            refine xl_nil ?_
            refine xthen_normal ?_
            refine xc_cond_t rfl ?_
            refine xc_seq ?_
            refine xc_region ?_
            refine xl_pure rfl rfl rfl (pv_build_s (cs := [.int _ _, .int _ _, .int _ _, .int _ _, .int _ _, .int _ _, .int _ _, .int _ _, .int _ _, .int _ _, .int _ _, .int _ _, .int _ _, .slice _ _ _, .slice _ _ _, .int _ _, .int _ _, .int _ _, .int _ _]) rfl rfl rfl) ?_
            refine xl_store rfl rfl (hv_storeA (vs := [.int _ _, .int _ _, .int _ _, .int _ _, .int _ _, .int _ _, .int _ _, .int _ _, .int _ _, .int _ _, .int _ _, .int _ _, .int _ _, .slice _ _ _, .slice _ _ _, .int _ _, .int _ _, .int _ _, .int _ _]) rfl rfl rfl (by first | exact ld_blk_a hr rfl rfl | exact hz | exact ld_blk hr rfl | exact hr) rfl (by rfl) rfl) ?_
            rintro v2_1 H2_1 ⟨hU2_1, hZ2_1⟩
            have hX := hX.ofBut hU2_1.but hgz
            have hz := hU2_1.blk
            refine xl_pure rfl rfl rfl (pv_assign (v := .int _ _) rfl rfl) ?_
            refine xl_nil ?_
            refine xthen_normal ?_
            refine xc_ret ?_
            refine xblock_ret ?_
            refine xthen_ret ?_
            refine fin_ret (resv2 rfl (rv_c (ty := 24) rfl (ld_blk_a hz rfl rfl)) (rv_t (v := .int _ _) rfl)) ?_
            first
              | exact ⟨1, D0, none, none, 0, 0, rfl, (take_bad (fun h => hg1_1 h.1)).symm, res0', hX⟩
              | exact ⟨1, D0, none, none, 0, 0, rfl, (take_bad (fun h => by have h := h.2; unfold TakeArgs Now at h; omega)).symm, res0', hX⟩
          · skip
            refine xl_pure rfl rfl rfl (pv_pick_f (v := .bool _) rfl rfl rfl) ?_
            refine xl_pure rfl rfl rfl (pv_move (v := .bool _) rfl rfl) ?_
            refine xl_pure rfl rfl rfl (pv_move (v := .int _ _) rfl rfl) ?_
            refine xl_heavy rfl rfl rfl (hv_call (g := 30) rfl rfl (c30 _ _ _) rfl) ?_
            rintro v1_21 H1_21 ⟨r1_21, rfl, hb1_21, rfl⟩
            cases r1_21
            · skip
              replace hb1_21 := mt hb1_21.2 (by decide)
              refine xl_pure rfl rfl rfl (pv_not rfl rfl) ?_
              refine xl_pure rfl rfl rfl (pv_pick_f (v := .bool _) rfl rfl rfl) ?_
              refine xl_pure rfl rfl rfl (pv_assign (v := .bool _) rfl rfl) ?_
              refine xl_nil ?_
              refine xthen_normal ?_
              refine xc_cond_t rfl ?_
              refine xc_seq ?_
              refine xc_region ?_
              refine xl_pure rfl rfl rfl (pv_build_s (cs := [.int _ _, .int _ _, .int _ _, .int _ _, .int _ _, .int _ _, .int _ _, .int _ _, .int _ _, .int _ _, .int _ _, .int _ _, .int _ _, .slice _ _ _, .slice _ _ _, .int _ _, .int _ _, .int _ _, .int _ _]) rfl rfl rfl) ?_
              refine xl_store rfl rfl (hv_storeA (vs := [.int _ _, .int _ _, .int _ _, .int _ _, .int _ _, .int _ _, .int _ _, .int _ _, .int _ _, .int _ _, .int _ _, .int _ _, .int _ _, .slice _ _ _, .slice _ _ _, .int _ _, .int _ _, .int _ _, .int _ _]) rfl rfl rfl (by first | exact ld_blk_a hr rfl rfl | exact hz | exact ld_blk hr rfl | exact hr) rfl (by rfl) rfl) ?_
              rintro v2_1 H2_1 ⟨hU2_1, hZ2_1⟩
              have hX := hX.ofBut hU2_1.but hgz
              have hz := hU2_1.blk
              refine xl_pure rfl rfl rfl (pv_assign (v := .int _ _) rfl rfl) ?_
              refine xl_nil ?_
              refine xthen_normal ?_
              refine xc_ret ?_
              refine xblock_ret ?_
              refine xthen_ret ?_
              refine fin_ret (resv2 rfl (rv_c (ty := 24) rfl (ld_blk_a hz rfl rfl)) (rv_t (v := .int _ _) rfl)) ?_
              first
                | exact ⟨1, D0, none, none, 0, 0, rfl, (take_bad (fun h => hg1_1 h.1)).symm, res0', hX⟩
                | exact ⟨1, D0, none, none, 0, 0, rfl, (take_bad (fun h => by have h := h.2; unfold TakeArgs Now at h; omega)).symm, res0', hX⟩
            · skip
              replace hb1_21 := hb1_21.1 rfl
              refine xl_pure rfl rfl rfl (pv_not rfl rfl) ?_
              refine xl_pure rfl rfl rfl (pv_pick_f (v := .bool _) rfl rfl rfl) ?_
              refine xl_pure rfl rfl rfl (pv_assign (v := .bool _) rfl rfl) ?_
              refine xl_nil ?_
              refine xthen_normal ?_
              refine xc_cond_f rfl ?_
              refine xc_seq ?_
              refine xc_region ?_
              refine xl_pure rfl rfl rfl (pv_fieldAddr rfl rfl) ?_
              refine xl_light rfl rfl rfl (lv_load (v := .int _ _) rfl rfl (by first | exact ld_blk_a hr rfl rfl | exact hz | exact ld_blk hr rfl | exact hr)) ?_
              refine xl_ndec rfl rfl rfl (pv_neq rfl rfl rfl) (fun h3_2 => ?_) (fun h3_2 => ?_)
              · skip
                refine xl_pure rfl rfl rfl (pv_move (v := .bool _) rfl rfl) ?_
                refine xl_pure rfl rfl rfl (pv_fieldAddr rfl rfl) ?_
                refine xl_light rfl rfl rfl (lv_load (v := .int _ _) rfl rfl (by first | exact ld_blk_a hr rfl rfl | exact hz | exact ld_blk hr rfl | exact hr)) ?_
                refine xl_ndec rfl rfl rfl (pv_neq rfl rfl rfl) (fun h3_6 => ?_) (fun h3_6 => ?_)
                · skip
                  refine xl_pure rfl rfl rfl (pv_move (v := .bool _) rfl rfl) ?_
                  refine xl_skip rfl rfl rfl ?_
                  refine xl_skip rfl rfl rfl ?_
                  refine xl_skip rfl rfl rfl ?_
                  refine xl_skip rfl rfl rfl ?_
                  refine xl_pure rfl rfl rfl (pv_pick_f (v := .bool _) rfl rfl rfl) ?_
                  refine xl_pure rfl rfl rfl (pv_pick_f (v := .bool _) rfl rfl rfl) ?_
                  refine xl_pure rfl rfl rfl (pv_assign (v := .bool _) rfl rfl) ?_
                  refine xl_nil ?_
                  refine xthen_normal ?_
                  refine xc_cond_f rfl ?_
                  refine xc_skip ?_
                  refine xblock_normal ?_
                  refine xthen_normal ?_
                  refine xc_seq ?_
                  refine xc_region ?_
                  refine xl_pure rfl rfl rfl (pv_move (v := .int _ _) rfl rfl) ?_
                  refine xl_pure rfl rfl rfl (pv_move (v := .int _ _) rfl rfl) ?_
                  refine xl_pure rfl rfl rfl (pv_fieldAddr rfl rfl) ?_
                  refine xl_store rfl rfl (hv_store (vs := [.int _ _]) rfl rfl rfl (by first | exact ld_blk_a hr rfl rfl | exact hz | exact ld_blk hr rfl | exact hr) rfl (Nat.le_of_ble_eq_true rfl) rfl) ?_
                  rintro v5_3 H5_3 ⟨hU5_3, hZ5_3⟩
                  have hX := hX.ofBut hU5_3.but hge
                  have hz := hz.but hU5_3.but hne.symm
                  have hr := hU5_3.blk
                  refine xl_pure rfl rfl rfl (pv_fieldAddr rfl rfl) ?_
                  refine xl_store rfl rfl (hv_store (vs := [.int _ _]) rfl rfl rfl (by first | exact ld_blk_a hr rfl rfl | exact hz | exact ld_blk hr rfl | exact hr) rfl (Nat.le_of_ble_eq_true rfl) rfl) ?_
                  rintro v5_5 H5_5 ⟨hU5_5, hZ5_5⟩
                  have hX := hX.ofBut hU5_5.but hge
                  have hz := hz.but hU5_5.but hne.symm
                  have hr := hU5_5.blk
                  refine xl_nil ?_
                  refine xthen_normal ?_
                  refine xc_seq ?_
                  have hkn := hg1_1.2.2.2.1
                  unfold Kin at hkn
                  refine xc_region ?_
                  refine xl_pure rfl rfl rfl (pv_move (v := .int _ _) rfl rfl) ?_
                  refine xl_pure rfl rfl rfl (pv_fieldAddr rfl rfl) ?_
                  refine xl_light rfl rfl rfl (lv_load (v := .int _ _) rfl rfl (by first | exact ld_blk_a hr rfl rfl | exact hz | exact ld_blk hr rfl | exact hr)) ?_
                  refine xl_pure rfl rfl rfl (pv_add rfl rfl rfl (fit_i64 (by omega))) ?_
                  refine xl_pure rfl rfl rfl (pv_fieldAddr rfl rfl) ?_
                  refine xl_store rfl rfl (hv_store (vs := [.int _ _]) rfl rfl rfl (by first | exact ld_blk_a hr rfl rfl | exact hz | exact ld_blk hr rfl | exact hr) rfl (Nat.le_of_ble_eq_true rfl) rfl) ?_
                  rintro v6_5 H6_5 ⟨hU6_5, hZ6_5⟩
                  have hX := hX.ofBut hU6_5.but hge
                  have hz := hz.but hU6_5.but hne.symm
                  have hr := hU6_5.blk
                  refine xl_pure rfl rfl rfl (pv_fieldAddr rfl rfl) ?_
                  refine xl_store rfl rfl (hv_store (vs := [.int _ _]) rfl rfl rfl (by first | exact ld_blk_a hr rfl rfl | exact hz | exact ld_blk hr rfl | exact hr) rfl (Nat.le_of_ble_eq_true rfl) rfl) ?_
                  rintro v6_7 H6_7 ⟨hU6_7, hZ6_7⟩
                  have hX := hX.ofBut hU6_7.but hge
                  have hz := hz.but hU6_7.but hne.symm
                  have hr := hU6_7.blk
                  refine xl_nil ?_
                  refine xthen_normal ?_
                  refine xc_seq ?_
                  refine xc_seq ?_
                  refine xc_region ?_
                  refine xl_pure rfl rfl rfl (pv_fieldAddr rfl rfl) ?_
                  refine xl_light rfl rfl rfl (lv_load (v := .int _ _) rfl rfl (by first | exact ld_blk_a hr rfl rfl | exact hz | exact ld_blk hr rfl | exact hr)) ?_
                  refine xl_dec rfl rfl rfl (pv_eql rfl rfl rfl) (fun h7_2 => ?_) (fun h7_2 => ?_)
                  · skip
                    refine xl_nil ?_
                    refine xthen_normal ?_
                    refine xc_cond_t rfl ?_
                    refine xc_region ?_
                    refine xl_pure rfl rfl rfl (pv_fieldAddr rfl rfl) ?_
                    refine xl_store rfl rfl (hv_store (vs := [.int _ _]) rfl rfl rfl (by first | exact ld_blk_a hr rfl rfl | exact hz | exact ld_blk hr rfl | exact hr) rfl (Nat.le_of_ble_eq_true rfl) rfl) ?_
                    rintro v8_1 H8_1 ⟨hU8_1, hZ8_1⟩
                    have hX := hX.ofBut hU8_1.but hge
                    have hz := hz.but hU8_1.but hne.symm
                    have hr := hU8_1.blk
                    refine xl_pure rfl rfl rfl (pv_fieldAddr rfl rfl) ?_
                    refine xl_store rfl rfl (hv_store (vs := [.int _ _]) rfl rfl rfl (by first | exact ld_blk_a hr rfl rfl | exact hz | exact ld_blk hr rfl | exact hr) rfl (Nat.le_of_ble_eq_true rfl) rfl) ?_
                    rintro v8_3 H8_3 ⟨hU8_3, hZ8_3⟩
                    have hX := hX.ofBut hU8_3.but hge
                    have hz := hz.but hU8_3.but hne.symm
                    have hr := hU8_3.blk
                    refine xl_nil ?_
                    refine xthen_normal ?_
                    refine xc_seq ?_
                    refine xc_region ?_
                    refine xl_light rfl rfl rfl (lv_load (v := .agg _) rfl rfl (by first | exact ld_blk_a hr rfl rfl | exact hz | exact ld_blk hr rfl | exact hr)) ?_
                    refine xl_store rfl rfl (hv_storeA (vs := [.int _ _, .int _ _, .int _ _, .int _ _, .int _ _, .int _ _, .int _ _, .int _ _, .int _ _, .int _ _, .int _ _, .int _ _, .int _ _, .slice _ _ _, .slice _ _ _, .int _ _, .int _ _, .int _ _, .int _ _]) rfl rfl rfl (by first | exact ld_blk_a hr rfl rfl | exact hz | exact ld_blk hr rfl | exact hr) rfl (by rfl) rfl) ?_
                    rintro v9_1 H9_1 ⟨hU9_1, hZ9_1⟩
                    have hX := hX.ofBut hU9_1.but hgz
                    have hz := hU9_1.blk
                    refine xl_pure rfl rfl rfl (pv_assign (v := .int _ _) rfl rfl) ?_
                    refine xl_nil ?_
                    refine xthen_normal ?_
                    refine xc_ret ?_
                    refine fin_ret (resv2 rfl (rv_c (ty := 24) rfl (ld_blk_a hz rfl rfl)) (rv_t (v := .int _ _) rfl)) ?_
                    first
                      | exact ⟨0, { d with taker := t, into := i, st := 3, due := 0 }, a, b, c, e, rfl, (take_2 hg1_1 (by unfold TakeArgs Now; omega) (by unfold TakeMay; omega) h7_2).symm, .inr ⟨rfl, rfl, rfl, rfl⟩, hX⟩
                      | exact ⟨0, { d with taker := t, into := i, st := 2, due := now + d.days }, a, b, c, e, rfl, (take_1 hg1_1 (by unfold TakeArgs Now; omega) (by unfold TakeMay; omega) h7_2).symm, .inr ⟨rfl, rfl, rfl, rfl⟩, hX⟩
                  · skip
                    refine xl_nil ?_
                    refine xthen_normal ?_
                    refine xc_cond_f rfl ?_
                    refine xc_skip ?_
                    refine xthen_normal ?_
                    refine xc_seq ?_
                    refine xc_region ?_
                    refine xl_light rfl rfl rfl (lv_load (v := .agg _) rfl rfl (by first | exact ld_blk_a hr rfl rfl | exact hz | exact ld_blk hr rfl | exact hr)) ?_
                    refine xl_store rfl rfl (hv_storeA (vs := [.int _ _, .int _ _, .int _ _, .int _ _, .int _ _, .int _ _, .int _ _, .int _ _, .int _ _, .int _ _, .int _ _, .int _ _, .int _ _, .slice _ _ _, .slice _ _ _, .int _ _, .int _ _, .int _ _, .int _ _]) rfl rfl rfl (by first | exact ld_blk_a hr rfl rfl | exact hz | exact ld_blk hr rfl | exact hr) rfl (by rfl) rfl) ?_
                    rintro v9_1 H9_1 ⟨hU9_1, hZ9_1⟩
                    have hX := hX.ofBut hU9_1.but hgz
                    have hz := hU9_1.blk
                    refine xl_pure rfl rfl rfl (pv_assign (v := .int _ _) rfl rfl) ?_
                    refine xl_nil ?_
                    refine xthen_normal ?_
                    refine xc_ret ?_
                    refine fin_ret (resv2 rfl (rv_c (ty := 24) rfl (ld_blk_a hz rfl rfl)) (rv_t (v := .int _ _) rfl)) ?_
                    first
                      | exact ⟨0, { d with taker := t, into := i, st := 3, due := 0 }, a, b, c, e, rfl, (take_2 hg1_1 (by unfold TakeArgs Now; omega) (by unfold TakeMay; omega) h7_2).symm, .inr ⟨rfl, rfl, rfl, rfl⟩, hX⟩
                      | exact ⟨0, { d with taker := t, into := i, st := 2, due := now + d.days }, a, b, c, e, rfl, (take_1 hg1_1 (by unfold TakeArgs Now; omega) (by unfold TakeMay; omega) h7_2).symm, .inr ⟨rfl, rfl, rfl, rfl⟩, hX⟩
                · skip
                  refine xl_pure rfl rfl rfl (pv_move (v := .bool _) rfl rfl) ?_
                  refine xl_pure rfl rfl rfl (pv_fieldAddr rfl rfl) ?_
                  refine xl_light rfl rfl rfl (lv_load (v := .int _ _) rfl rfl (by first | exact ld_blk_a hr rfl rfl | exact hz | exact ld_blk hr rfl | exact hr)) ?_
                  refine xl_pure rfl rfl rfl (pv_move (v := .int _ _) rfl rfl) ?_
                  refine xl_ndec rfl rfl rfl (pv_neq rfl rfl rfl) (fun h3_11 => ?_) (fun h3_11 => ?_)
                  · skip
                    refine xl_pure rfl rfl rfl (pv_pick_t (v := .bool _) rfl rfl rfl) ?_
                    refine xl_pure rfl rfl rfl (pv_pick_f (v := .bool _) rfl rfl rfl) ?_
                    refine xl_pure rfl rfl rfl (pv_assign (v := .bool _) rfl rfl) ?_
                    refine xl_nil ?_
                    refine xthen_normal ?_
                    refine xc_cond_f rfl ?_
                    refine xc_skip ?_
                    refine xblock_normal ?_
                    refine xthen_normal ?_
                    refine xc_seq ?_
                    refine xc_region ?_
                    refine xl_pure rfl rfl rfl (pv_move (v := .int _ _) rfl rfl) ?_
                    refine xl_pure rfl rfl rfl (pv_move (v := .int _ _) rfl rfl) ?_
                    refine xl_pure rfl rfl rfl (pv_fieldAddr rfl rfl) ?_
                    refine xl_store rfl rfl (hv_store (vs := [.int _ _]) rfl rfl rfl (by first | exact ld_blk_a hr rfl rfl | exact hz | exact ld_blk hr rfl | exact hr) rfl (Nat.le_of_ble_eq_true rfl) rfl) ?_
                    rintro v5_3 H5_3 ⟨hU5_3, hZ5_3⟩
                    have hX := hX.ofBut hU5_3.but hge
                    have hz := hz.but hU5_3.but hne.symm
                    have hr := hU5_3.blk
                    refine xl_pure rfl rfl rfl (pv_fieldAddr rfl rfl) ?_
                    refine xl_store rfl rfl (hv_store (vs := [.int _ _]) rfl rfl rfl (by first | exact ld_blk_a hr rfl rfl | exact hz | exact ld_blk hr rfl | exact hr) rfl (Nat.le_of_ble_eq_true rfl) rfl) ?_
                    rintro v5_5 H5_5 ⟨hU5_5, hZ5_5⟩
                    have hX := hX.ofBut hU5_5.but hge
                    have hz := hz.but hU5_5.but hne.symm
                    have hr := hU5_5.blk
                    refine xl_nil ?_
                    refine xthen_normal ?_
                    refine xc_seq ?_
                    have hkn := hg1_1.2.2.2.1
                    unfold Kin at hkn
                    refine xc_region ?_
                    refine xl_pure rfl rfl rfl (pv_move (v := .int _ _) rfl rfl) ?_
                    refine xl_pure rfl rfl rfl (pv_fieldAddr rfl rfl) ?_
                    refine xl_light rfl rfl rfl (lv_load (v := .int _ _) rfl rfl (by first | exact ld_blk_a hr rfl rfl | exact hz | exact ld_blk hr rfl | exact hr)) ?_
                    refine xl_pure rfl rfl rfl (pv_add rfl rfl rfl (fit_i64 (by omega))) ?_
                    refine xl_pure rfl rfl rfl (pv_fieldAddr rfl rfl) ?_
                    refine xl_store rfl rfl (hv_store (vs := [.int _ _]) rfl rfl rfl (by first | exact ld_blk_a hr rfl rfl | exact hz | exact ld_blk hr rfl | exact hr) rfl (Nat.le_of_ble_eq_true rfl) rfl) ?_
                    rintro v6_5 H6_5 ⟨hU6_5, hZ6_5⟩
                    have hX := hX.ofBut hU6_5.but hge
                    have hz := hz.but hU6_5.but hne.symm
                    have hr := hU6_5.blk
                    refine xl_pure rfl rfl rfl (pv_fieldAddr rfl rfl) ?_
                    refine xl_store rfl rfl (hv_store (vs := [.int _ _]) rfl rfl rfl (by first | exact ld_blk_a hr rfl rfl | exact hz | exact ld_blk hr rfl | exact hr) rfl (Nat.le_of_ble_eq_true rfl) rfl) ?_
                    rintro v6_7 H6_7 ⟨hU6_7, hZ6_7⟩
                    have hX := hX.ofBut hU6_7.but hge
                    have hz := hz.but hU6_7.but hne.symm
                    have hr := hU6_7.blk
                    refine xl_nil ?_
                    refine xthen_normal ?_
                    refine xc_seq ?_
                    refine xc_seq ?_
                    refine xc_region ?_
                    refine xl_pure rfl rfl rfl (pv_fieldAddr rfl rfl) ?_
                    refine xl_light rfl rfl rfl (lv_load (v := .int _ _) rfl rfl (by first | exact ld_blk_a hr rfl rfl | exact hz | exact ld_blk hr rfl | exact hr)) ?_
                    refine xl_dec rfl rfl rfl (pv_eql rfl rfl rfl) (fun h7_2 => ?_) (fun h7_2 => ?_)
                    · skip
                      refine xl_nil ?_
                      refine xthen_normal ?_
                      refine xc_cond_t rfl ?_
                      refine xc_region ?_
                      refine xl_pure rfl rfl rfl (pv_fieldAddr rfl rfl) ?_
                      refine xl_store rfl rfl (hv_store (vs := [.int _ _]) rfl rfl rfl (by first | exact ld_blk_a hr rfl rfl | exact hz | exact ld_blk hr rfl | exact hr) rfl (Nat.le_of_ble_eq_true rfl) rfl) ?_
                      rintro v8_1 H8_1 ⟨hU8_1, hZ8_1⟩
                      have hX := hX.ofBut hU8_1.but hge
                      have hz := hz.but hU8_1.but hne.symm
                      have hr := hU8_1.blk
                      refine xl_pure rfl rfl rfl (pv_fieldAddr rfl rfl) ?_
                      refine xl_store rfl rfl (hv_store (vs := [.int _ _]) rfl rfl rfl (by first | exact ld_blk_a hr rfl rfl | exact hz | exact ld_blk hr rfl | exact hr) rfl (Nat.le_of_ble_eq_true rfl) rfl) ?_
                      rintro v8_3 H8_3 ⟨hU8_3, hZ8_3⟩
                      have hX := hX.ofBut hU8_3.but hge
                      have hz := hz.but hU8_3.but hne.symm
                      have hr := hU8_3.blk
                      refine xl_nil ?_
                      refine xthen_normal ?_
                      refine xc_seq ?_
                      refine xc_region ?_
                      refine xl_light rfl rfl rfl (lv_load (v := .agg _) rfl rfl (by first | exact ld_blk_a hr rfl rfl | exact hz | exact ld_blk hr rfl | exact hr)) ?_
                      refine xl_store rfl rfl (hv_storeA (vs := [.int _ _, .int _ _, .int _ _, .int _ _, .int _ _, .int _ _, .int _ _, .int _ _, .int _ _, .int _ _, .int _ _, .int _ _, .int _ _, .slice _ _ _, .slice _ _ _, .int _ _, .int _ _, .int _ _, .int _ _]) rfl rfl rfl (by first | exact ld_blk_a hr rfl rfl | exact hz | exact ld_blk hr rfl | exact hr) rfl (by rfl) rfl) ?_
                      rintro v9_1 H9_1 ⟨hU9_1, hZ9_1⟩
                      have hX := hX.ofBut hU9_1.but hgz
                      have hz := hU9_1.blk
                      refine xl_pure rfl rfl rfl (pv_assign (v := .int _ _) rfl rfl) ?_
                      refine xl_nil ?_
                      refine xthen_normal ?_
                      refine xc_ret ?_
                      refine fin_ret (resv2 rfl (rv_c (ty := 24) rfl (ld_blk_a hz rfl rfl)) (rv_t (v := .int _ _) rfl)) ?_
                      first
                        | exact ⟨0, { d with taker := t, into := i, st := 3, due := 0 }, a, b, c, e, rfl, (take_2 hg1_1 (by unfold TakeArgs Now; omega) (by unfold TakeMay; omega) h7_2).symm, .inr ⟨rfl, rfl, rfl, rfl⟩, hX⟩
                        | exact ⟨0, { d with taker := t, into := i, st := 2, due := now + d.days }, a, b, c, e, rfl, (take_1 hg1_1 (by unfold TakeArgs Now; omega) (by unfold TakeMay; omega) h7_2).symm, .inr ⟨rfl, rfl, rfl, rfl⟩, hX⟩
                    · skip
                      refine xl_nil ?_
                      refine xthen_normal ?_
                      refine xc_cond_f rfl ?_
                      refine xc_skip ?_
                      refine xthen_normal ?_
                      refine xc_seq ?_
                      refine xc_region ?_
                      refine xl_light rfl rfl rfl (lv_load (v := .agg _) rfl rfl (by first | exact ld_blk_a hr rfl rfl | exact hz | exact ld_blk hr rfl | exact hr)) ?_
                      refine xl_store rfl rfl (hv_storeA (vs := [.int _ _, .int _ _, .int _ _, .int _ _, .int _ _, .int _ _, .int _ _, .int _ _, .int _ _, .int _ _, .int _ _, .int _ _, .int _ _, .slice _ _ _, .slice _ _ _, .int _ _, .int _ _, .int _ _, .int _ _]) rfl rfl rfl (by first | exact ld_blk_a hr rfl rfl | exact hz | exact ld_blk hr rfl | exact hr) rfl (by rfl) rfl) ?_
                      rintro v9_1 H9_1 ⟨hU9_1, hZ9_1⟩
                      have hX := hX.ofBut hU9_1.but hgz
                      have hz := hU9_1.blk
                      refine xl_pure rfl rfl rfl (pv_assign (v := .int _ _) rfl rfl) ?_
                      refine xl_nil ?_
                      refine xthen_normal ?_
                      refine xc_ret ?_
                      refine fin_ret (resv2 rfl (rv_c (ty := 24) rfl (ld_blk_a hz rfl rfl)) (rv_t (v := .int _ _) rfl)) ?_
                      first
                        | exact ⟨0, { d with taker := t, into := i, st := 3, due := 0 }, a, b, c, e, rfl, (take_2 hg1_1 (by unfold TakeArgs Now; omega) (by unfold TakeMay; omega) h7_2).symm, .inr ⟨rfl, rfl, rfl, rfl⟩, hX⟩
                        | exact ⟨0, { d with taker := t, into := i, st := 2, due := now + d.days }, a, b, c, e, rfl, (take_1 hg1_1 (by unfold TakeArgs Now; omega) (by unfold TakeMay; omega) h7_2).symm, .inr ⟨rfl, rfl, rfl, rfl⟩, hX⟩
                  · skip
                    refine xl_pure rfl rfl rfl (pv_pick_t (v := .bool _) rfl rfl rfl) ?_
                    refine xl_pure rfl rfl rfl (pv_pick_f (v := .bool _) rfl rfl rfl) ?_
                    refine xl_pure rfl rfl rfl (pv_assign (v := .bool _) rfl rfl) ?_
                    refine xl_nil ?_
                    refine xthen_normal ?_
                    refine xc_cond_t rfl ?_
                    refine xc_seq ?_
                    refine xc_region ?_
                    refine xl_pure rfl rfl rfl (pv_build_s (cs := [.int _ _, .int _ _, .int _ _, .int _ _, .int _ _, .int _ _, .int _ _, .int _ _, .int _ _, .int _ _, .int _ _, .int _ _, .int _ _, .slice _ _ _, .slice _ _ _, .int _ _, .int _ _, .int _ _, .int _ _]) rfl rfl rfl) ?_
                    refine xl_store rfl rfl (hv_storeA (vs := [.int _ _, .int _ _, .int _ _, .int _ _, .int _ _, .int _ _, .int _ _, .int _ _, .int _ _, .int _ _, .int _ _, .int _ _, .int _ _, .slice _ _ _, .slice _ _ _, .int _ _, .int _ _, .int _ _, .int _ _]) rfl rfl rfl (by first | exact ld_blk_a hr rfl rfl | exact hz | exact ld_blk hr rfl | exact hr) rfl (by rfl) rfl) ?_
                    rintro v4_1 H4_1 ⟨hU4_1, hZ4_1⟩
                    have hX := hX.ofBut hU4_1.but hgz
                    have hz := hU4_1.blk
                    refine xl_pure rfl rfl rfl (pv_assign (v := .int _ _) rfl rfl) ?_
                    refine xl_nil ?_
                    refine xthen_normal ?_
                    refine xc_ret ?_
                    refine xblock_ret ?_
                    refine xthen_ret ?_
                    refine fin_ret (resv2 rfl (rv_c (ty := 24) rfl (ld_blk_a hz rfl rfl)) (rv_t (v := .int _ _) rfl)) ?_
                    exact ⟨9, D0, none, none, 0, 0, rfl, (take_no hg1_1 (by unfold TakeArgs Now; omega) (by unfold TakeMay; omega)).symm, res0', hX⟩
              · skip
                refine xl_pure rfl rfl rfl (pv_move (v := .bool _) rfl rfl) ?_
                refine xl_skip rfl rfl rfl ?_
                refine xl_skip rfl rfl rfl ?_
                refine xl_skip rfl rfl rfl ?_
                refine xl_skip rfl rfl rfl ?_
                refine xl_skip rfl rfl rfl ?_
                refine xl_skip rfl rfl rfl ?_
                refine xl_skip rfl rfl rfl ?_
                refine xl_skip rfl rfl rfl ?_
                refine xl_skip rfl rfl rfl ?_
                refine xl_pure rfl rfl rfl (pv_pick_t (v := .bool _) rfl rfl rfl) ?_
                refine xl_pure rfl rfl rfl (pv_assign (v := .bool _) rfl rfl) ?_
                refine xl_nil ?_
                refine xthen_normal ?_
                refine xc_cond_t rfl ?_
                refine xc_seq ?_
                refine xc_region ?_
                refine xl_pure rfl rfl rfl (pv_build_s (cs := [.int _ _, .int _ _, .int _ _, .int _ _, .int _ _, .int _ _, .int _ _, .int _ _, .int _ _, .int _ _, .int _ _, .int _ _, .int _ _, .slice _ _ _, .slice _ _ _, .int _ _, .int _ _, .int _ _, .int _ _]) rfl rfl rfl) ?_
                refine xl_store rfl rfl (hv_storeA (vs := [.int _ _, .int _ _, .int _ _, .int _ _, .int _ _, .int _ _, .int _ _, .int _ _, .int _ _, .int _ _, .int _ _, .int _ _, .int _ _, .slice _ _ _, .slice _ _ _, .int _ _, .int _ _, .int _ _, .int _ _]) rfl rfl rfl (by first | exact ld_blk_a hr rfl rfl | exact hz | exact ld_blk hr rfl | exact hr) rfl (by rfl) rfl) ?_
                rintro v4_1 H4_1 ⟨hU4_1, hZ4_1⟩
                have hX := hX.ofBut hU4_1.but hgz
                have hz := hU4_1.blk
                refine xl_pure rfl rfl rfl (pv_assign (v := .int _ _) rfl rfl) ?_
                refine xl_nil ?_
                refine xthen_normal ?_
                refine xc_ret ?_
                refine xblock_ret ?_
                refine xthen_ret ?_
                refine fin_ret (resv2 rfl (rv_c (ty := 24) rfl (ld_blk_a hz rfl rfl)) (rv_t (v := .int _ _) rfl)) ?_
                exact ⟨9, D0, none, none, 0, 0, rfl, (take_no hg1_1 (by unfold TakeArgs Now; omega) (by unfold TakeMay; omega)).symm, res0', hX⟩
    · exact absurd (by decide) h1_2
  · skip
    refine xl_ndec rfl rfl rfl (pv_neq rfl rfl rfl) (fun h1_2 => ?_) (fun h1_2 => ?_)
    · exact absurd h1_2 (by decide)
    · skip
      refine xl_pure rfl rfl rfl (pv_move (v := .bool _) rfl rfl) ?_
      refine xl_skip rfl rfl rfl ?_
      refine xl_skip rfl rfl rfl ?_
      refine xl_skip rfl rfl rfl ?_
      refine xl_pure rfl rfl rfl (pv_pick_t (v := .bool _) rfl rfl rfl) ?_
      refine xl_pure rfl rfl rfl (pv_move (v := .bool _) rfl rfl) ?_
      refine xl_skip rfl rfl rfl ?_
      refine xl_skip rfl rfl rfl ?_
      refine xl_skip rfl rfl rfl ?_
      refine xl_pure rfl rfl rfl (pv_pick_t (v := .bool _) rfl rfl rfl) ?_
      refine xl_pure rfl rfl rfl (pv_move (v := .bool _) rfl rfl) ?_
      refine xl_skip rfl rfl rfl ?_
      refine xl_skip rfl rfl rfl ?_
      refine xl_skip rfl rfl rfl ?_
      refine xl_skip rfl rfl rfl ?_
      refine xl_pure rfl rfl rfl (pv_pick_t (v := .bool _) rfl rfl rfl) ?_
      refine xl_pure rfl rfl rfl (pv_move (v := .bool _) rfl rfl) ?_
      refine xl_skip rfl rfl rfl ?_
      refine xl_skip rfl rfl rfl ?_
      refine xl_skip rfl rfl rfl ?_
      refine xl_pure rfl rfl rfl (pv_pick_t (v := .bool _) rfl rfl rfl) ?_
      refine xl_pure rfl rfl rfl (pv_assign (v := .bool _) rfl rfl) ?_
      refine xl_nil ?_
      refine xthen_normal ?_
      refine xc_cond_t rfl ?_
      refine xc_seq ?_
      refine xc_region ?_
      refine xl_pure rfl rfl rfl (pv_build_s (cs := [.int _ _, .int _ _, .int _ _, .int _ _, .int _ _, .int _ _, .int _ _, .int _ _, .int _ _, .int _ _, .int _ _, .int _ _, .int _ _, .slice _ _ _, .slice _ _ _, .int _ _, .int _ _, .int _ _, .int _ _]) rfl rfl rfl) ?_
      refine xl_store rfl rfl (hv_storeA (vs := [.int _ _, .int _ _, .int _ _, .int _ _, .int _ _, .int _ _, .int _ _, .int _ _, .int _ _, .int _ _, .int _ _, .int _ _, .int _ _, .slice _ _ _, .slice _ _ _, .int _ _, .int _ _, .int _ _, .int _ _]) rfl rfl rfl (by first | exact ld_blk_a hr rfl rfl | exact hz | exact ld_blk hr rfl | exact hr) rfl (by rfl) rfl) ?_
      rintro v2_1 H2_1 ⟨hU2_1, hZ2_1⟩
      have hX := hX.ofBut hU2_1.but hgz
      have hz := hU2_1.blk
      refine xl_pure rfl rfl rfl (pv_assign (v := .int _ _) rfl rfl) ?_
      refine xl_nil ?_
      refine xthen_normal ?_
      refine xc_ret ?_
      refine xblock_ret ?_
      refine xthen_ret ?_
      refine fin_ret (resv2 rfl (rv_c (ty := 24) rfl (ld_blk_a hz rfl rfl)) (rv_t (v := .int _ _) rfl)) ?_
      first
        | exact ⟨1, D0, none, none, 0, 0, rfl, (take_bad (fun h => hg1_1 h.1)).symm, res0', hX⟩
        | exact ⟨1, D0, none, none, 0, 0, rfl, (take_bad (fun h => by have h := h.2; unfold TakeArgs Now at h; omega)).symm, res0', hX⟩

theorem c11 {O : Outer} {H : Heap} (d : D) (a b : Option Addr) (c e : Nat) (now t i : Int) (hs : Stks H a d.gives) (hs' : Stks H b d.wants) (hl : d.gives.length < 1099511627776) (hl' : d.wants.length < 1099511627776) :
    FnC Try.prog 11 #[.agg (dcs d a b c e).toArray, .int .i64 now, .int .i64 t, .int .i64 i] O H (fun v H' => ∃ r x a' b' c' e', v = .tuple #[dv x a' b' c' e', .int .i64 r] ∧ (r, x) = takeD d now t i ∧ Res d x a b a' b' ∧ Ext H H') := by
  refine fn_enter (A := [.agg (dcs d a b c e).toArray, .int .i64 now, .int .i64 t, .int .i64 i]) Try.func11 rfl rfl ?_
  refine xc_seq ?_
  refine xc_region ?_
  refine xl_heavy rfl rfl rfl (hv_box rfl rfl) ?_
  rintro v0_0 H0_0 ⟨b0_0, rfl, hN0_0⟩
  have hr := hN0_0.blk
  have hX := hN0_0.ext
  have hge := hN0_0.ge
  refine xl_heavy rfl rfl rfl (hv_alloc rfl rfl) ?_
  rintro v0_1 H0_1 ⟨b0_1, rfl, hN0_1⟩
  have hne := hr.fresh hN0_1.ge
  have hr := hr.ext hN0_1.ext
  have hgz := Nat.le_trans hX.size hN0_1.ge
  have hX := hX.trans hN0_1.ext
  have hz := hN0_1.blk
  refine xl_pure rfl rfl rfl (pv_assign (v := .int _ _) rfl rfl) ?_
  refine xl_nil ?_
  refine xthen_normal ?_
  refine xc_seq ?_
  refine xc_seq ?_
  refine xc_region ?_
  refine xl_light rfl rfl rfl (lv_load (v := .agg _) rfl rfl (by first | exact ld_blk_a hr rfl rfl | exact hz | exact ld_blk hr rfl | exact hr)) ?_
  refine xl_heavy rfl rfl rfl (hv_call (g := 21) rfl rfl (c21 d a b c e (hs.ext hX) (hs'.ext hX) hl hl') rfl) ?_
  rintro v1_1 H1_1 ⟨e1_1, rfl, hg1_1, hE1_1⟩
  have hX := hX.trans hE1_1
  have hr := hr.ext hE1_1
  try have hz := hz.ext hE1_1
  rcases hg1_1 with ⟨hg1_1, rfl⟩ | ⟨hg1_1, rfl⟩
  · skip
    refine xl_ndec rfl rfl rfl (pv_neq rfl rfl rfl) (fun h1_2 => ?_) (fun h1_2 => ?_)
    · skip
      refine xl_pure rfl rfl rfl (pv_move (v := .bool _) rfl rfl) ?_
      refine xl_pure rfl rfl rfl (pv_move (v := .int _ _) rfl rfl) ?_
      refine xl_heavy rfl rfl rfl (hv_call (g := 31) rfl rfl (c31 _ _ _) rfl) ?_
      rintro v1_5 H1_5 ⟨r1_5, rfl, hb1_5, rfl⟩
      cases r1_5
      · skip
        replace hb1_5 := mt hb1_5.2 (by decide)
        refine xl_pure rfl rfl rfl (pv_not rfl rfl) ?_
        refine xl_pure rfl rfl rfl (pv_pick_f (v := .bool _) rfl rfl rfl) ?_
        refine xl_pure rfl rfl rfl (pv_move (v := .bool _) rfl rfl) ?_
        refine xl_skip rfl rfl rfl ?_
        refine xl_skip rfl rfl rfl ?_
        refine xl_skip rfl rfl rfl ?_
        refine xl_pure rfl rfl rfl (pv_pick_t (v := .bool _) rfl rfl rfl) ?_
        refine xl_pure rfl rfl rfl (pv_move (v := .bool _) rfl rfl) ?_
        refine xl_skip rfl rfl rfl ?_
        refine xl_skip rfl rfl rfl ?_
        refine xl_skip rfl rfl rfl ?_
        refine xl_skip rfl rfl rfl ?_
        refine xl_pure rfl rfl rfl (pv_pick_t (v := .bool _) rfl rfl rfl) ?_
        refine xl_pure rfl rfl rfl (pv_move (v := .bool _) rfl rfl) ?_
        refine xl_skip rfl rfl rfl ?_
        refine xl_skip rfl rfl rfl ?_
        refine xl_skip rfl rfl rfl ?_
        refine xl_pure rfl rfl rfl (pv_pick_t (v := .bool _) rfl rfl rfl) ?_
        refine xl_nil ?_
        refine xthen_normal ?_
        refine xc_cond_t rfl ?_
        refine xc_seq ?_
        refine xc_region ?_
        refine xl_pure rfl rfl rfl (pv_build_s (cs := [.int _ _, .int _ _, .int _ _, .int _ _, .int _ _, .int _ _, .int _ _, .int _ _, .int _ _, .int _ _, .int _ _, .int _ _, .int _ _, .slice _ _ _, .slice _ _ _, .int _ _, .int _ _, .int _ _, .int _ _]) rfl rfl rfl) ?_
        refine xl_store rfl rfl (hv_storeA (vs := [.int _ _, .int _ _, .int _ _, .int _ _, .int _ _, .int _ _, .int _ _, .int _ _, .int _ _, .int _ _, .int _ _, .int _ _, .int _ _, .slice _ _ _, .slice _ _ _, .int _ _, .int _ _, .int _ _, .int _ _]) rfl rfl rfl (by first | exact ld_blk_a hr rfl rfl | exact hz | exact ld_blk hr rfl | exact hr) rfl (by rfl) rfl) ?_
        rintro v2_1 H2_1 ⟨hU2_1, hZ2_1⟩
        have hX := hX.ofBut hU2_1.but hgz
        have hz := hU2_1.blk
        refine xl_pure rfl rfl rfl (pv_assign (v := .int _ _) rfl rfl) ?_
        refine xl_nil ?_
        refine xthen_normal ?_
        refine xc_ret ?_
        refine xthen_ret ?_
        refine fin_ret (resv2 rfl (rv_c (ty := 24) rfl (ld_blk_a hz rfl rfl)) (rv_t (v := .int _ _) rfl)) ?_
        first
          | exact ⟨1, D0, none, none, 0, 0, rfl, (take_bad (fun h => hg1_1 h.1)).symm, res0', hX⟩
          | exact ⟨1, D0, none, none, 0, 0, rfl, (take_bad (fun h => by have h := h.2; unfold TakeArgs Now at h; omega)).symm, res0', hX⟩
      · skip
        replace hb1_5 := hb1_5.1 rfl
        refine xl_pure rfl rfl rfl (pv_not rfl rfl) ?_
        refine xl_pure rfl rfl rfl (pv_pick_f (v := .bool _) rfl rfl rfl) ?_
        refine xl_pure rfl rfl rfl (pv_move (v := .bool _) rfl rfl) ?_
        refine xl_pure rfl rfl rfl (pv_move (v := .int _ _) rfl rfl) ?_
        refine xl_heavy rfl rfl rfl (hv_call (g := 31) rfl rfl (c31 _ _ _) rfl) ?_
        rintro v1_10 H1_10 ⟨r1_10, rfl, hb1_10, rfl⟩
        cases r1_10
        · skip
          replace hb1_10 := mt hb1_10.2 (by decide)
          refine xl_pure rfl rfl rfl (pv_not rfl rfl) ?_
          refine xl_pure rfl rfl rfl (pv_pick_f (v := .bool _) rfl rfl rfl) ?_
          refine xl_pure rfl rfl rfl (pv_move (v := .bool _) rfl rfl) ?_
          refine xl_skip rfl rfl rfl ?_
          refine xl_skip rfl rfl rfl ?_
          refine xl_skip rfl rfl rfl ?_
          refine xl_skip rfl rfl rfl ?_
          refine xl_pure rfl rfl rfl (pv_pick_t (v := .bool _) rfl rfl rfl) ?_
          refine xl_pure rfl rfl rfl (pv_move (v := .bool _) rfl rfl) ?_
          refine xl_skip rfl rfl rfl ?_
          refine xl_skip rfl rfl rfl ?_
          refine xl_skip rfl rfl rfl ?_
          refine xl_pure rfl rfl rfl (pv_pick_t (v := .bool _) rfl rfl rfl) ?_
          refine xl_nil ?_
          refine xthen_normal ?_
          refine xc_cond_t rfl ?_
          refine xc_seq ?_
          refine xc_region ?_
          refine xl_pure rfl rfl rfl (pv_build_s (cs := [.int _ _, .int _ _, .int _ _, .int _ _, .int _ _, .int _ _, .int _ _, .int _ _, .int _ _, .int _ _, .int _ _, .int _ _, .int _ _, .slice _ _ _, .slice _ _ _, .int _ _, .int _ _, .int _ _, .int _ _]) rfl rfl rfl) ?_
          refine xl_store rfl rfl (hv_storeA (vs := [.int _ _, .int _ _, .int _ _, .int _ _, .int _ _, .int _ _, .int _ _, .int _ _, .int _ _, .int _ _, .int _ _, .int _ _, .int _ _, .slice _ _ _, .slice _ _ _, .int _ _, .int _ _, .int _ _, .int _ _]) rfl rfl rfl (by first | exact ld_blk_a hr rfl rfl | exact hz | exact ld_blk hr rfl | exact hr) rfl (by rfl) rfl) ?_
          rintro v2_1 H2_1 ⟨hU2_1, hZ2_1⟩
          have hX := hX.ofBut hU2_1.but hgz
          have hz := hU2_1.blk
          refine xl_pure rfl rfl rfl (pv_assign (v := .int _ _) rfl rfl) ?_
          refine xl_nil ?_
          refine xthen_normal ?_
          refine xc_ret ?_
          refine xthen_ret ?_
          refine fin_ret (resv2 rfl (rv_c (ty := 24) rfl (ld_blk_a hz rfl rfl)) (rv_t (v := .int _ _) rfl)) ?_
          first
            | exact ⟨1, D0, none, none, 0, 0, rfl, (take_bad (fun h => hg1_1 h.1)).symm, res0', hX⟩
            | exact ⟨1, D0, none, none, 0, 0, rfl, (take_bad (fun h => by have h := h.2; unfold TakeArgs Now at h; omega)).symm, res0', hX⟩
        · skip
          replace hb1_10 := hb1_10.1 rfl
          refine xl_pure rfl rfl rfl (pv_not rfl rfl) ?_
          refine xl_pure rfl rfl rfl (pv_pick_f (v := .bool _) rfl rfl rfl) ?_
          refine xl_pure rfl rfl rfl (pv_move (v := .bool _) rfl rfl) ?_
          refine xl_pure rfl rfl rfl (pv_move (v := .int _ _) rfl rfl) ?_
          refine xl_pure rfl rfl rfl (pv_fieldAddr rfl rfl) ?_
          refine xl_light rfl rfl rfl (lv_load (v := .int _ _) rfl rfl (by first | exact ld_blk_a hr rfl rfl | exact hz | exact ld_blk hr rfl | exact hr)) ?_
          refine xl_dec rfl rfl rfl (pv_eql rfl rfl rfl) (fun h1_17 => ?_) (fun h1_17 => ?_)
          · skip
            refine xl_pure rfl rfl rfl (pv_pick_f (v := .bool _) rfl rfl rfl) ?_
            refine xl_pure rfl rfl rfl (pv_move (v := .bool _) rfl rfl) ?_
            refine xl_skip rfl rfl rfl ?_
            refine xl_skip rfl rfl rfl ?_
            refine xl_skip rfl rfl rfl ?_
            refine xl_pure rfl rfl rfl (pv_pick_t (v := .bool _) rfl rfl rfl) ?_
            refine xl_nil ?_
            refine xthen_normal ?_
            refine xc_cond_t rfl ?_
            refine xc_seq ?_
            refine xc_region ?_
            refine xl_pure rfl rfl rfl (pv_build_s (cs := [.int _ _, .int _ _, .int _ _, .int _ _, .int _ _, .int _ _, .int _ _, .int _ _, .int _ _, .int _ _, .int _ _, .int _ _, .int _ _, .slice _ _ _, .slice _ _ _, .int _ _, .int _ _, .int _ _, .int _ _]) rfl rfl rfl) ?_
            refine xl_store rfl rfl (hv_storeA (vs := [.int _ _, .int _ _, .int _ _, .int _ _, .int _ _, .int _ _, .int _ _, .int _ _, .int _ _, .int _ _, .int _ _, .int _ _, .int _ _, .slice _ _ _, .slice _ _ _, .int _ _, .int _ _, .int _ _, .int _ _]) rfl rfl rfl (by first | exact ld_blk_a hr rfl rfl | exact hz | exact ld_blk hr rfl | exact hr) rfl (by rfl) rfl) ?_
            rintro v2_1 H2_1 ⟨hU2_1, hZ2_1⟩
            have hX := hX.ofBut hU2_1.but hgz
            have hz := hU2_1.blk
            refine xl_pure rfl rfl rfl (pv_assign (v := .int _ _) rfl rfl) ?_
            refine xl_nil ?_
            refine xthen_normal ?_
            refine xc_ret ?_
            refine xthen_ret ?_
            refine fin_ret (resv2 rfl (rv_c (ty := 24) rfl (ld_blk_a hz rfl rfl)) (rv_t (v := .int _ _) rfl)) ?_
            first
              | exact ⟨1, D0, none, none, 0, 0, rfl, (take_bad (fun h => hg1_1 h.1)).symm, res0', hX⟩
              | exact ⟨1, D0, none, none, 0, 0, rfl, (take_bad (fun h => by have h := h.2; unfold TakeArgs Now at h; omega)).symm, res0', hX⟩
          · skip
            refine xl_pure rfl rfl rfl (pv_pick_f (v := .bool _) rfl rfl rfl) ?_
            refine xl_pure rfl rfl rfl (pv_move (v := .bool _) rfl rfl) ?_
            refine xl_pure rfl rfl rfl (pv_move (v := .int _ _) rfl rfl) ?_
            refine xl_heavy rfl rfl rfl (hv_call (g := 31) rfl rfl (c31 _ _ _) rfl) ?_
            rintro v1_21 H1_21 ⟨r1_21, rfl, hb1_21, rfl⟩
            cases r1_21
            · skip
              replace hb1_21 := mt hb1_21.2 (by decide)
              refine xl_pure rfl rfl rfl (pv_not rfl rfl) ?_
              refine xl_pure rfl rfl rfl (pv_pick_f (v := .bool _) rfl rfl rfl) ?_
              refine xl_nil ?_
              refine xthen_normal ?_
              refine xc_cond_t rfl ?_
              refine xc_seq ?_
              refine xc_region ?_
              refine xl_pure rfl rfl rfl (pv_build_s (cs := [.int _ _, .int _ _, .int _ _, .int _ _, .int _ _, .int _ _, .int _ _, .int _ _, .int _ _, .int _ _, .int _ _, .int _ _, .int _ _, .slice _ _ _, .slice _ _ _, .int _ _, .int _ _, .int _ _, .int _ _]) rfl rfl rfl) ?_
              refine xl_store rfl rfl (hv_storeA (vs := [.int _ _, .int _ _, .int _ _, .int _ _, .int _ _, .int _ _, .int _ _, .int _ _, .int _ _, .int _ _, .int _ _, .int _ _, .int _ _, .slice _ _ _, .slice _ _ _, .int _ _, .int _ _, .int _ _, .int _ _]) rfl rfl rfl (by first | exact ld_blk_a hr rfl rfl | exact hz | exact ld_blk hr rfl | exact hr) rfl (by rfl) rfl) ?_
              rintro v2_1 H2_1 ⟨hU2_1, hZ2_1⟩
              have hX := hX.ofBut hU2_1.but hgz
              have hz := hU2_1.blk
              refine xl_pure rfl rfl rfl (pv_assign (v := .int _ _) rfl rfl) ?_
              refine xl_nil ?_
              refine xthen_normal ?_
              refine xc_ret ?_
              refine xthen_ret ?_
              refine fin_ret (resv2 rfl (rv_c (ty := 24) rfl (ld_blk_a hz rfl rfl)) (rv_t (v := .int _ _) rfl)) ?_
              first
                | exact ⟨1, D0, none, none, 0, 0, rfl, (take_bad (fun h => hg1_1 h.1)).symm, res0', hX⟩
                | exact ⟨1, D0, none, none, 0, 0, rfl, (take_bad (fun h => by have h := h.2; unfold TakeArgs Now at h; omega)).symm, res0', hX⟩
            · skip
              replace hb1_21 := hb1_21.1 rfl
              refine xl_pure rfl rfl rfl (pv_not rfl rfl) ?_
              refine xl_pure rfl rfl rfl (pv_pick_f (v := .bool _) rfl rfl rfl) ?_
              refine xl_nil ?_
              refine xthen_normal ?_
              refine xc_cond_f rfl ?_
              refine xc_skip ?_
              refine xthen_normal ?_
              refine xc_seq ?_
              refine xc_seq ?_
              refine xc_region ?_
              refine xl_pure rfl rfl rfl (pv_fieldAddr rfl rfl) ?_
              refine xl_light rfl rfl rfl (lv_load (v := .int _ _) rfl rfl (by first | exact ld_blk_a hr rfl rfl | exact hz | exact ld_blk hr rfl | exact hr)) ?_
              refine xl_ndec rfl rfl rfl (pv_neq rfl rfl rfl) (fun h3_2 => ?_) (fun h3_2 => ?_)
              · skip
                refine xl_pure rfl rfl rfl (pv_move (v := .bool _) rfl rfl) ?_
                refine xl_pure rfl rfl rfl (pv_fieldAddr rfl rfl) ?_
                refine xl_light rfl rfl rfl (lv_load (v := .int _ _) rfl rfl (by first | exact ld_blk_a hr rfl rfl | exact hz | exact ld_blk hr rfl | exact hr)) ?_
                refine xl_ndec rfl rfl rfl (pv_neq rfl rfl rfl) (fun h3_6 => ?_) (fun h3_6 => ?_)
                · skip
                  refine xl_pure rfl rfl rfl (pv_move (v := .bool _) rfl rfl) ?_
                  refine xl_skip rfl rfl rfl ?_
                  refine xl_skip rfl rfl rfl ?_
                  refine xl_skip rfl rfl rfl ?_
                  refine xl_skip rfl rfl rfl ?_
                  refine xl_pure rfl rfl rfl (pv_pick_f (v := .bool _) rfl rfl rfl) ?_
                  refine xl_pure rfl rfl rfl (pv_pick_f (v := .bool _) rfl rfl rfl) ?_
                  refine xl_nil ?_
                  refine xthen_normal ?_
                  refine xc_cond_f rfl ?_
                  refine xc_skip ?_
                  refine xthen_normal ?_
                  refine xc_seq ?_
                  refine xc_region ?_
                  refine xl_pure rfl rfl rfl (pv_move (v := .int _ _) rfl rfl) ?_
                  refine xl_pure rfl rfl rfl (pv_fieldAddr rfl rfl) ?_
                  refine xl_store rfl rfl (hv_store (vs := [.int _ _]) rfl rfl rfl (by first | exact ld_blk_a hr rfl rfl | exact hz | exact ld_blk hr rfl | exact hr) rfl (Nat.le_of_ble_eq_true rfl) rfl) ?_
                  rintro v5_2 H5_2 ⟨hU5_2, hZ5_2⟩
                  have hX := hX.ofBut hU5_2.but hge
                  have hz := hz.but hU5_2.but hne.symm
                  have hr := hU5_2.blk
                  refine xl_nil ?_
                  refine xthen_normal ?_
                  refine xc_seq ?_
                  refine xc_region ?_
                  refine xl_pure rfl rfl rfl (pv_move (v := .int _ _) rfl rfl) ?_
                  refine xl_pure rfl rfl rfl (pv_fieldAddr rfl rfl) ?_
                  refine xl_store rfl rfl (hv_store (vs := [.int _ _]) rfl rfl rfl (by first | exact ld_blk_a hr rfl rfl | exact hz | exact ld_blk hr rfl | exact hr) rfl (Nat.le_of_ble_eq_true rfl) rfl) ?_
                  rintro v6_2 H6_2 ⟨hU6_2, hZ6_2⟩
                  have hX := hX.ofBut hU6_2.but hge
                  have hz := hz.but hU6_2.but hne.symm
                  have hr := hU6_2.blk
                  refine xl_nil ?_
                  refine xthen_normal ?_
                  refine xc_seq ?_
                  refine xc_region ?_
                  refine xl_pure rfl rfl rfl (pv_fieldAddr rfl rfl) ?_
                  refine xl_store rfl rfl (hv_store (vs := [.int _ _]) rfl rfl rfl (by first | exact ld_blk_a hr rfl rfl | exact hz | exact ld_blk hr rfl | exact hr) rfl (Nat.le_of_ble_eq_true rfl) rfl) ?_
                  rintro v7_1 H7_1 ⟨hU7_1, hZ7_1⟩
                  have hX := hX.ofBut hU7_1.but hge
                  have hz := hz.but hU7_1.but hne.symm
                  have hr := hU7_1.blk
                  refine xl_nil ?_
                  refine xthen_normal ?_
                  refine xc_seq ?_
                  have hkn := hg1_1.2.2.2.1
                  unfold Kin at hkn
                  refine xc_region ?_
                  refine xl_pure rfl rfl rfl (pv_move (v := .int _ _) rfl rfl) ?_
                  refine xl_pure rfl rfl rfl (pv_fieldAddr rfl rfl) ?_
                  refine xl_light rfl rfl rfl (lv_load (v := .int _ _) rfl rfl (by first | exact ld_blk_a hr rfl rfl | exact hz | exact ld_blk hr rfl | exact hr)) ?_
                  refine xl_pure rfl rfl rfl (pv_add rfl rfl rfl (fit_i64 (by omega))) ?_
                  refine xl_pure rfl rfl rfl (pv_fieldAddr rfl rfl) ?_
                  refine xl_store rfl rfl (hv_store (vs := [.int _ _]) rfl rfl rfl (by first | exact ld_blk_a hr rfl rfl | exact hz | exact ld_blk hr rfl | exact hr) rfl (Nat.le_of_ble_eq_true rfl) rfl) ?_
                  rintro v8_5 H8_5 ⟨hU8_5, hZ8_5⟩
                  have hX := hX.ofBut hU8_5.but hge
                  have hz := hz.but hU8_5.but hne.symm
                  have hr := hU8_5.blk
                  refine xl_nil ?_
                  refine xthen_normal ?_
                  refine xc_seq ?_
                  refine xc_seq ?_
                  refine xc_region ?_
                  refine xl_pure rfl rfl rfl (pv_fieldAddr rfl rfl) ?_
                  refine xl_light rfl rfl rfl (lv_load (v := .int _ _) rfl rfl (by first | exact ld_blk_a hr rfl rfl | exact hz | exact ld_blk hr rfl | exact hr)) ?_
                  refine xl_dec rfl rfl rfl (pv_eql rfl rfl rfl) (fun h9_2 => ?_) (fun h9_2 => ?_)
                  · skip
                    refine xl_nil ?_
                    refine xthen_normal ?_
                    refine xc_cond_t rfl ?_
                    refine xc_seq ?_
                    refine xc_region ?_
                    refine xl_pure rfl rfl rfl (pv_fieldAddr rfl rfl) ?_
                    refine xl_store rfl rfl (hv_store (vs := [.int _ _]) rfl rfl rfl (by first | exact ld_blk_a hr rfl rfl | exact hz | exact ld_blk hr rfl | exact hr) rfl (Nat.le_of_ble_eq_true rfl) rfl) ?_
                    rintro v10_1 H10_1 ⟨hU10_1, hZ10_1⟩
                    have hX := hX.ofBut hU10_1.but hge
                    have hz := hz.but hU10_1.but hne.symm
                    have hr := hU10_1.blk
                    refine xl_nil ?_
                    refine xthen_normal ?_
                    refine xc_region ?_
                    refine xl_pure rfl rfl rfl (pv_fieldAddr rfl rfl) ?_
                    refine xl_store rfl rfl (hv_store (vs := [.int _ _]) rfl rfl rfl (by first | exact ld_blk_a hr rfl rfl | exact hz | exact ld_blk hr rfl | exact hr) rfl (Nat.le_of_ble_eq_true rfl) rfl) ?_
                    rintro v11_1 H11_1 ⟨hU11_1, hZ11_1⟩
                    have hX := hX.ofBut hU11_1.but hge
                    have hz := hz.but hU11_1.but hne.symm
                    have hr := hU11_1.blk
                    refine xl_nil ?_
                    refine xthen_normal ?_
                    refine xc_seq ?_
                    refine xc_region ?_
                    refine xl_light rfl rfl rfl (lv_load (v := .agg _) rfl rfl (by first | exact ld_blk_a hr rfl rfl | exact hz | exact ld_blk hr rfl | exact hr)) ?_
                    refine xl_store rfl rfl (hv_storeA (vs := [.int _ _, .int _ _, .int _ _, .int _ _, .int _ _, .int _ _, .int _ _, .int _ _, .int _ _, .int _ _, .int _ _, .int _ _, .int _ _, .slice _ _ _, .slice _ _ _, .int _ _, .int _ _, .int _ _, .int _ _]) rfl rfl rfl (by first | exact ld_blk_a hr rfl rfl | exact hz | exact ld_blk hr rfl | exact hr) rfl (by rfl) rfl) ?_
                    rintro v12_1 H12_1 ⟨hU12_1, hZ12_1⟩
                    have hX := hX.ofBut hU12_1.but hgz
                    have hz := hU12_1.blk
                    refine xl_pure rfl rfl rfl (pv_assign (v := .int _ _) rfl rfl) ?_
                    refine xl_nil ?_
                    refine xthen_normal ?_
                    refine xc_ret ?_
                    refine fin_ret (resv2 rfl (rv_c (ty := 24) rfl (ld_blk_a hz rfl rfl)) (rv_t (v := .int _ _) rfl)) ?_
                    first
                      | exact ⟨0, { d with taker := t, into := i, st := 3, due := 0 }, a, b, c, e, rfl, (take_2 hg1_1 (by unfold TakeArgs Now; omega) (by unfold TakeMay; omega) h9_2).symm, .inr ⟨rfl, rfl, rfl, rfl⟩, hX⟩
                      | exact ⟨0, { d with taker := t, into := i, st := 2, due := now + d.days }, a, b, c, e, rfl, (take_1 hg1_1 (by unfold TakeArgs Now; omega) (by unfold TakeMay; omega) h9_2).symm, .inr ⟨rfl, rfl, rfl, rfl⟩, hX⟩
                  · skip
                    refine xl_nil ?_
                    refine xthen_normal ?_
                    refine xc_cond_f rfl ?_
                    refine xc_skip ?_
                    refine xthen_normal ?_
                    refine xc_seq ?_
                    refine xc_region ?_
                    refine xl_light rfl rfl rfl (lv_load (v := .agg _) rfl rfl (by first | exact ld_blk_a hr rfl rfl | exact hz | exact ld_blk hr rfl | exact hr)) ?_
                    refine xl_store rfl rfl (hv_storeA (vs := [.int _ _, .int _ _, .int _ _, .int _ _, .int _ _, .int _ _, .int _ _, .int _ _, .int _ _, .int _ _, .int _ _, .int _ _, .int _ _, .slice _ _ _, .slice _ _ _, .int _ _, .int _ _, .int _ _, .int _ _]) rfl rfl rfl (by first | exact ld_blk_a hr rfl rfl | exact hz | exact ld_blk hr rfl | exact hr) rfl (by rfl) rfl) ?_
                    rintro v12_1 H12_1 ⟨hU12_1, hZ12_1⟩
                    have hX := hX.ofBut hU12_1.but hgz
                    have hz := hU12_1.blk
                    refine xl_pure rfl rfl rfl (pv_assign (v := .int _ _) rfl rfl) ?_
                    refine xl_nil ?_
                    refine xthen_normal ?_
                    refine xc_ret ?_
                    refine fin_ret (resv2 rfl (rv_c (ty := 24) rfl (ld_blk_a hz rfl rfl)) (rv_t (v := .int _ _) rfl)) ?_
                    first
                      | exact ⟨0, { d with taker := t, into := i, st := 3, due := 0 }, a, b, c, e, rfl, (take_2 hg1_1 (by unfold TakeArgs Now; omega) (by unfold TakeMay; omega) h9_2).symm, .inr ⟨rfl, rfl, rfl, rfl⟩, hX⟩
                      | exact ⟨0, { d with taker := t, into := i, st := 2, due := now + d.days }, a, b, c, e, rfl, (take_1 hg1_1 (by unfold TakeArgs Now; omega) (by unfold TakeMay; omega) h9_2).symm, .inr ⟨rfl, rfl, rfl, rfl⟩, hX⟩
                · skip
                  refine xl_pure rfl rfl rfl (pv_move (v := .bool _) rfl rfl) ?_
                  refine xl_pure rfl rfl rfl (pv_fieldAddr rfl rfl) ?_
                  refine xl_light rfl rfl rfl (lv_load (v := .int _ _) rfl rfl (by first | exact ld_blk_a hr rfl rfl | exact hz | exact ld_blk hr rfl | exact hr)) ?_
                  refine xl_pure rfl rfl rfl (pv_move (v := .int _ _) rfl rfl) ?_
                  refine xl_ndec rfl rfl rfl (pv_neq rfl rfl rfl) (fun h3_11 => ?_) (fun h3_11 => ?_)
                  · skip
                    refine xl_pure rfl rfl rfl (pv_pick_t (v := .bool _) rfl rfl rfl) ?_
                    refine xl_pure rfl rfl rfl (pv_pick_f (v := .bool _) rfl rfl rfl) ?_
                    refine xl_nil ?_
                    refine xthen_normal ?_
                    refine xc_cond_f rfl ?_
                    refine xc_skip ?_
                    refine xthen_normal ?_
                    refine xc_seq ?_
                    refine xc_region ?_
                    refine xl_pure rfl rfl rfl (pv_move (v := .int _ _) rfl rfl) ?_
                    refine xl_pure rfl rfl rfl (pv_fieldAddr rfl rfl) ?_
                    refine xl_store rfl rfl (hv_store (vs := [.int _ _]) rfl rfl rfl (by first | exact ld_blk_a hr rfl rfl | exact hz | exact ld_blk hr rfl | exact hr) rfl (Nat.le_of_ble_eq_true rfl) rfl) ?_
                    rintro v5_2 H5_2 ⟨hU5_2, hZ5_2⟩
                    have hX := hX.ofBut hU5_2.but hge
                    have hz := hz.but hU5_2.but hne.symm
                    have hr := hU5_2.blk
                    refine xl_nil ?_
                    refine xthen_normal ?_
                    refine xc_seq ?_
                    refine xc_region ?_
                    refine xl_pure rfl rfl rfl (pv_move (v := .int _ _) rfl rfl) ?_
                    refine xl_pure rfl rfl rfl (pv_fieldAddr rfl rfl) ?_
                    refine xl_store rfl rfl (hv_store (vs := [.int _ _]) rfl rfl rfl (by first | exact ld_blk_a hr rfl rfl | exact hz | exact ld_blk hr rfl | exact hr) rfl (Nat.le_of_ble_eq_true rfl) rfl) ?_
                    rintro v6_2 H6_2 ⟨hU6_2, hZ6_2⟩
                    have hX := hX.ofBut hU6_2.but hge
                    have hz := hz.but hU6_2.but hne.symm
                    have hr := hU6_2.blk
                    refine xl_nil ?_
                    refine xthen_normal ?_
                    refine xc_seq ?_
                    refine xc_region ?_
                    refine xl_pure rfl rfl rfl (pv_fieldAddr rfl rfl) ?_
                    refine xl_store rfl rfl (hv_store (vs := [.int _ _]) rfl rfl rfl (by first | exact ld_blk_a hr rfl rfl | exact hz | exact ld_blk hr rfl | exact hr) rfl (Nat.le_of_ble_eq_true rfl) rfl) ?_
                    rintro v7_1 H7_1 ⟨hU7_1, hZ7_1⟩
                    have hX := hX.ofBut hU7_1.but hge
                    have hz := hz.but hU7_1.but hne.symm
                    have hr := hU7_1.blk
                    refine xl_nil ?_
                    refine xthen_normal ?_
                    refine xc_seq ?_
                    have hkn := hg1_1.2.2.2.1
                    unfold Kin at hkn
                    refine xc_region ?_
                    refine xl_pure rfl rfl rfl (pv_move (v := .int _ _) rfl rfl) ?_
                    refine xl_pure rfl rfl rfl (pv_fieldAddr rfl rfl) ?_
                    refine xl_light rfl rfl rfl (lv_load (v := .int _ _) rfl rfl (by first | exact ld_blk_a hr rfl rfl | exact hz | exact ld_blk hr rfl | exact hr)) ?_
                    refine xl_pure rfl rfl rfl (pv_add rfl rfl rfl (fit_i64 (by omega))) ?_
                    refine xl_pure rfl rfl rfl (pv_fieldAddr rfl rfl) ?_
                    refine xl_store rfl rfl (hv_store (vs := [.int _ _]) rfl rfl rfl (by first | exact ld_blk_a hr rfl rfl | exact hz | exact ld_blk hr rfl | exact hr) rfl (Nat.le_of_ble_eq_true rfl) rfl) ?_
                    rintro v8_5 H8_5 ⟨hU8_5, hZ8_5⟩
                    have hX := hX.ofBut hU8_5.but hge
                    have hz := hz.but hU8_5.but hne.symm
                    have hr := hU8_5.blk
                    refine xl_nil ?_
                    refine xthen_normal ?_
                    refine xc_seq ?_
                    refine xc_seq ?_
                    refine xc_region ?_
                    refine xl_pure rfl rfl rfl (pv_fieldAddr rfl rfl) ?_
                    refine xl_light rfl rfl rfl (lv_load (v := .int _ _) rfl rfl (by first | exact ld_blk_a hr rfl rfl | exact hz | exact ld_blk hr rfl | exact hr)) ?_
                    refine xl_dec rfl rfl rfl (pv_eql rfl rfl rfl) (fun h9_2 => ?_) (fun h9_2 => ?_)
                    · skip
                      refine xl_nil ?_
                      refine xthen_normal ?_
                      refine xc_cond_t rfl ?_
                      refine xc_seq ?_
                      refine xc_region ?_
                      refine xl_pure rfl rfl rfl (pv_fieldAddr rfl rfl) ?_
                      refine xl_store rfl rfl (hv_store (vs := [.int _ _]) rfl rfl rfl (by first | exact ld_blk_a hr rfl rfl | exact hz | exact ld_blk hr rfl | exact hr) rfl (Nat.le_of_ble_eq_true rfl) rfl) ?_
                      rintro v10_1 H10_1 ⟨hU10_1, hZ10_1⟩
                      have hX := hX.ofBut hU10_1.but hge
                      have hz := hz.but hU10_1.but hne.symm
                      have hr := hU10_1.blk
                      refine xl_nil ?_
                      refine xthen_normal ?_
                      refine xc_region ?_
                      refine xl_pure rfl rfl rfl (pv_fieldAddr rfl rfl) ?_
                      refine xl_store rfl rfl (hv_store (vs := [.int _ _]) rfl rfl rfl (by first | exact ld_blk_a hr rfl rfl | exact hz | exact ld_blk hr rfl | exact hr) rfl (Nat.le_of_ble_eq_true rfl) rfl) ?_
                      rintro v11_1 H11_1 ⟨hU11_1, hZ11_1⟩
                      have hX := hX.ofBut hU11_1.but hge
                      have hz := hz.but hU11_1.but hne.symm
                      have hr := hU11_1.blk
                      refine xl_nil ?_
                      refine xthen_normal ?_
                      refine xc_seq ?_
                      refine xc_region ?_
                      refine xl_light rfl rfl rfl (lv_load (v := .agg _) rfl rfl (by first | exact ld_blk_a hr rfl rfl | exact hz | exact ld_blk hr rfl | exact hr)) ?_
                      refine xl_store rfl rfl (hv_storeA (vs := [.int _ _, .int _ _, .int _ _, .int _ _, .int _ _, .int _ _, .int _ _, .int _ _, .int _ _, .int _ _, .int _ _, .int _ _, .int _ _, .slice _ _ _, .slice _ _ _, .int _ _, .int _ _, .int _ _, .int _ _]) rfl rfl rfl (by first | exact ld_blk_a hr rfl rfl | exact hz | exact ld_blk hr rfl | exact hr) rfl (by rfl) rfl) ?_
                      rintro v12_1 H12_1 ⟨hU12_1, hZ12_1⟩
                      have hX := hX.ofBut hU12_1.but hgz
                      have hz := hU12_1.blk
                      refine xl_pure rfl rfl rfl (pv_assign (v := .int _ _) rfl rfl) ?_
                      refine xl_nil ?_
                      refine xthen_normal ?_
                      refine xc_ret ?_
                      refine fin_ret (resv2 rfl (rv_c (ty := 24) rfl (ld_blk_a hz rfl rfl)) (rv_t (v := .int _ _) rfl)) ?_
                      first
                        | exact ⟨0, { d with taker := t, into := i, st := 3, due := 0 }, a, b, c, e, rfl, (take_2 hg1_1 (by unfold TakeArgs Now; omega) (by unfold TakeMay; omega) h9_2).symm, .inr ⟨rfl, rfl, rfl, rfl⟩, hX⟩
                        | exact ⟨0, { d with taker := t, into := i, st := 2, due := now + d.days }, a, b, c, e, rfl, (take_1 hg1_1 (by unfold TakeArgs Now; omega) (by unfold TakeMay; omega) h9_2).symm, .inr ⟨rfl, rfl, rfl, rfl⟩, hX⟩
                    · skip
                      refine xl_nil ?_
                      refine xthen_normal ?_
                      refine xc_cond_f rfl ?_
                      refine xc_skip ?_
                      refine xthen_normal ?_
                      refine xc_seq ?_
                      refine xc_region ?_
                      refine xl_light rfl rfl rfl (lv_load (v := .agg _) rfl rfl (by first | exact ld_blk_a hr rfl rfl | exact hz | exact ld_blk hr rfl | exact hr)) ?_
                      refine xl_store rfl rfl (hv_storeA (vs := [.int _ _, .int _ _, .int _ _, .int _ _, .int _ _, .int _ _, .int _ _, .int _ _, .int _ _, .int _ _, .int _ _, .int _ _, .int _ _, .slice _ _ _, .slice _ _ _, .int _ _, .int _ _, .int _ _, .int _ _]) rfl rfl rfl (by first | exact ld_blk_a hr rfl rfl | exact hz | exact ld_blk hr rfl | exact hr) rfl (by rfl) rfl) ?_
                      rintro v12_1 H12_1 ⟨hU12_1, hZ12_1⟩
                      have hX := hX.ofBut hU12_1.but hgz
                      have hz := hU12_1.blk
                      refine xl_pure rfl rfl rfl (pv_assign (v := .int _ _) rfl rfl) ?_
                      refine xl_nil ?_
                      refine xthen_normal ?_
                      refine xc_ret ?_
                      refine fin_ret (resv2 rfl (rv_c (ty := 24) rfl (ld_blk_a hz rfl rfl)) (rv_t (v := .int _ _) rfl)) ?_
                      first
                        | exact ⟨0, { d with taker := t, into := i, st := 3, due := 0 }, a, b, c, e, rfl, (take_2 hg1_1 (by unfold TakeArgs Now; omega) (by unfold TakeMay; omega) h9_2).symm, .inr ⟨rfl, rfl, rfl, rfl⟩, hX⟩
                        | exact ⟨0, { d with taker := t, into := i, st := 2, due := now + d.days }, a, b, c, e, rfl, (take_1 hg1_1 (by unfold TakeArgs Now; omega) (by unfold TakeMay; omega) h9_2).symm, .inr ⟨rfl, rfl, rfl, rfl⟩, hX⟩
                  · skip
                    refine xl_pure rfl rfl rfl (pv_pick_t (v := .bool _) rfl rfl rfl) ?_
                    refine xl_pure rfl rfl rfl (pv_pick_f (v := .bool _) rfl rfl rfl) ?_
                    refine xl_nil ?_
                    refine xthen_normal ?_
                    refine xc_cond_t rfl ?_
                    refine xc_seq ?_
                    refine xc_region ?_
                    refine xl_pure rfl rfl rfl (pv_build_s (cs := [.int _ _, .int _ _, .int _ _, .int _ _, .int _ _, .int _ _, .int _ _, .int _ _, .int _ _, .int _ _, .int _ _, .int _ _, .int _ _, .slice _ _ _, .slice _ _ _, .int _ _, .int _ _, .int _ _, .int _ _]) rfl rfl rfl) ?_
                    refine xl_store rfl rfl (hv_storeA (vs := [.int _ _, .int _ _, .int _ _, .int _ _, .int _ _, .int _ _, .int _ _, .int _ _, .int _ _, .int _ _, .int _ _, .int _ _, .int _ _, .slice _ _ _, .slice _ _ _, .int _ _, .int _ _, .int _ _, .int _ _]) rfl rfl rfl (by first | exact ld_blk_a hr rfl rfl | exact hz | exact ld_blk hr rfl | exact hr) rfl (by rfl) rfl) ?_
                    rintro v4_1 H4_1 ⟨hU4_1, hZ4_1⟩
                    have hX := hX.ofBut hU4_1.but hgz
                    have hz := hU4_1.blk
                    refine xl_pure rfl rfl rfl (pv_assign (v := .int _ _) rfl rfl) ?_
                    refine xl_nil ?_
                    refine xthen_normal ?_
                    refine xc_ret ?_
                    refine xthen_ret ?_
                    refine fin_ret (resv2 rfl (rv_c (ty := 24) rfl (ld_blk_a hz rfl rfl)) (rv_t (v := .int _ _) rfl)) ?_
                    exact ⟨9, D0, none, none, 0, 0, rfl, (take_no hg1_1 (by unfold TakeArgs Now; omega) (by unfold TakeMay; omega)).symm, res0', hX⟩
              · skip
                refine xl_pure rfl rfl rfl (pv_move (v := .bool _) rfl rfl) ?_
                refine xl_skip rfl rfl rfl ?_
                refine xl_skip rfl rfl rfl ?_
                refine xl_skip rfl rfl rfl ?_
                refine xl_skip rfl rfl rfl ?_
                refine xl_skip rfl rfl rfl ?_
                refine xl_skip rfl rfl rfl ?_
                refine xl_skip rfl rfl rfl ?_
                refine xl_skip rfl rfl rfl ?_
                refine xl_skip rfl rfl rfl ?_
                refine xl_pure rfl rfl rfl (pv_pick_t (v := .bool _) rfl rfl rfl) ?_
                refine xl_nil ?_
                refine xthen_normal ?_
                refine xc_cond_t rfl ?_
                refine xc_seq ?_
                refine xc_region ?_
                refine xl_pure rfl rfl rfl (pv_build_s (cs := [.int _ _, .int _ _, .int _ _, .int _ _, .int _ _, .int _ _, .int _ _, .int _ _, .int _ _, .int _ _, .int _ _, .int _ _, .int _ _, .slice _ _ _, .slice _ _ _, .int _ _, .int _ _, .int _ _, .int _ _]) rfl rfl rfl) ?_
                refine xl_store rfl rfl (hv_storeA (vs := [.int _ _, .int _ _, .int _ _, .int _ _, .int _ _, .int _ _, .int _ _, .int _ _, .int _ _, .int _ _, .int _ _, .int _ _, .int _ _, .slice _ _ _, .slice _ _ _, .int _ _, .int _ _, .int _ _, .int _ _]) rfl rfl rfl (by first | exact ld_blk_a hr rfl rfl | exact hz | exact ld_blk hr rfl | exact hr) rfl (by rfl) rfl) ?_
                rintro v4_1 H4_1 ⟨hU4_1, hZ4_1⟩
                have hX := hX.ofBut hU4_1.but hgz
                have hz := hU4_1.blk
                refine xl_pure rfl rfl rfl (pv_assign (v := .int _ _) rfl rfl) ?_
                refine xl_nil ?_
                refine xthen_normal ?_
                refine xc_ret ?_
                refine xthen_ret ?_
                refine fin_ret (resv2 rfl (rv_c (ty := 24) rfl (ld_blk_a hz rfl rfl)) (rv_t (v := .int _ _) rfl)) ?_
                exact ⟨9, D0, none, none, 0, 0, rfl, (take_no hg1_1 (by unfold TakeArgs Now; omega) (by unfold TakeMay; omega)).symm, res0', hX⟩
    · exact absurd (by decide) h1_2
  · skip
    refine xl_ndec rfl rfl rfl (pv_neq rfl rfl rfl) (fun h1_2 => ?_) (fun h1_2 => ?_)
    · exact absurd h1_2 (by decide)
    · skip
      refine xl_pure rfl rfl rfl (pv_move (v := .bool _) rfl rfl) ?_
      refine xl_skip rfl rfl rfl ?_
      refine xl_skip rfl rfl rfl ?_
      refine xl_skip rfl rfl rfl ?_
      refine xl_pure rfl rfl rfl (pv_pick_t (v := .bool _) rfl rfl rfl) ?_
      refine xl_pure rfl rfl rfl (pv_move (v := .bool _) rfl rfl) ?_
      refine xl_skip rfl rfl rfl ?_
      refine xl_skip rfl rfl rfl ?_
      refine xl_skip rfl rfl rfl ?_
      refine xl_pure rfl rfl rfl (pv_pick_t (v := .bool _) rfl rfl rfl) ?_
      refine xl_pure rfl rfl rfl (pv_move (v := .bool _) rfl rfl) ?_
      refine xl_skip rfl rfl rfl ?_
      refine xl_skip rfl rfl rfl ?_
      refine xl_skip rfl rfl rfl ?_
      refine xl_skip rfl rfl rfl ?_
      refine xl_pure rfl rfl rfl (pv_pick_t (v := .bool _) rfl rfl rfl) ?_
      refine xl_pure rfl rfl rfl (pv_move (v := .bool _) rfl rfl) ?_
      refine xl_skip rfl rfl rfl ?_
      refine xl_skip rfl rfl rfl ?_
      refine xl_skip rfl rfl rfl ?_
      refine xl_pure rfl rfl rfl (pv_pick_t (v := .bool _) rfl rfl rfl) ?_
      refine xl_nil ?_
      refine xthen_normal ?_
      refine xc_cond_t rfl ?_
      refine xc_seq ?_
      refine xc_region ?_
      refine xl_pure rfl rfl rfl (pv_build_s (cs := [.int _ _, .int _ _, .int _ _, .int _ _, .int _ _, .int _ _, .int _ _, .int _ _, .int _ _, .int _ _, .int _ _, .int _ _, .int _ _, .slice _ _ _, .slice _ _ _, .int _ _, .int _ _, .int _ _, .int _ _]) rfl rfl rfl) ?_
      refine xl_store rfl rfl (hv_storeA (vs := [.int _ _, .int _ _, .int _ _, .int _ _, .int _ _, .int _ _, .int _ _, .int _ _, .int _ _, .int _ _, .int _ _, .int _ _, .int _ _, .slice _ _ _, .slice _ _ _, .int _ _, .int _ _, .int _ _, .int _ _]) rfl rfl rfl (by first | exact ld_blk_a hr rfl rfl | exact hz | exact ld_blk hr rfl | exact hr) rfl (by rfl) rfl) ?_
      rintro v2_1 H2_1 ⟨hU2_1, hZ2_1⟩
      have hX := hX.ofBut hU2_1.but hgz
      have hz := hU2_1.blk
      refine xl_pure rfl rfl rfl (pv_assign (v := .int _ _) rfl rfl) ?_
      refine xl_nil ?_
      refine xthen_normal ?_
      refine xc_ret ?_
      refine xthen_ret ?_
      refine fin_ret (resv2 rfl (rv_c (ty := 24) rfl (ld_blk_a hz rfl rfl)) (rv_t (v := .int _ _) rfl)) ?_
      first
        | exact ⟨1, D0, none, none, 0, 0, rfl, (take_bad (fun h => hg1_1 h.1)).symm, res0', hX⟩
        | exact ⟨1, D0, none, none, 0, 0, rfl, (take_bad (fun h => by have h := h.2; unfold TakeArgs Now at h; omega)).symm, res0', hX⟩

theorem c8 {O : Outer} {H : Heap} (d : D) (a b : Option Addr) (c e : Nat) (now : Int) (hs : Stks H a d.gives) (hs' : Stks H b d.wants) (hl : d.gives.length < 1099511627776) (hl' : d.wants.length < 1099511627776) :
    FnC Try.prog 8 #[.agg (dcs d a b c e).toArray, .int .i64 now] O H (fun v H' => ∃ r x a' b' c' e', v = .tuple #[dv x a' b' c' e', .int .i64 r] ∧ (r, x) = openD d now ∧ Res d x a b a' b' ∧ Ext H H') := by
  refine fn_enter (A := [.agg (dcs d a b c e).toArray, .int .i64 now]) Try.func8 rfl rfl ?_
  refine xc_seq ?_
  refine xc_region ?_
  refine xl_heavy rfl rfl rfl (hv_box rfl rfl) ?_
  rintro v0_0 H0_0 ⟨b0_0, rfl, hN0_0⟩
  have hr := hN0_0.blk
  have hX := hN0_0.ext
  have hge := hN0_0.ge
  refine xl_heavy rfl rfl rfl (hv_alloc rfl rfl) ?_
  rintro v0_1 H0_1 ⟨b0_1, rfl, hN0_1⟩
  have hne := hr.fresh hN0_1.ge
  have hr := hr.ext hN0_1.ext
  have hgz := Nat.le_trans hX.size hN0_1.ge
  have hX := hX.trans hN0_1.ext
  have hz := hN0_1.blk
  refine xl_pure rfl rfl rfl (pv_assign (v := .int _ _) rfl rfl) ?_
  refine xl_nil ?_
  refine xthen_normal ?_
  refine xc_seq ?_
  refine xc_region ?_
  refine xl_pure rfl rfl rfl (pv_fieldAddr rfl rfl) ?_
  refine xl_store rfl rfl (hv_store (vs := [.int _ _]) rfl rfl rfl (by first | exact ld_blk_a hr rfl rfl | exact hz | exact ld_blk hr rfl | exact hr) rfl (Nat.le_of_ble_eq_true rfl) rfl) ?_
  rintro v1_1 H1_1 ⟨hU1_1, hZ1_1⟩
  have hX := hX.ofBut hU1_1.but hge
  have hz := hz.but hU1_1.but hne.symm
  have hr := hU1_1.blk
  refine xl_pure rfl rfl rfl (pv_fieldAddr rfl rfl) ?_
  refine xl_store rfl rfl (hv_store (vs := [.int _ _]) rfl rfl rfl (by first | exact ld_blk_a hr rfl rfl | exact hz | exact ld_blk hr rfl | exact hr) rfl (Nat.le_of_ble_eq_true rfl) rfl) ?_
  rintro v1_3 H1_3 ⟨hU1_3, hZ1_3⟩
  have hX := hX.ofBut hU1_3.but hge
  have hz := hz.but hU1_3.but hne.symm
  have hr := hU1_3.blk
  refine xl_pure rfl rfl rfl (pv_fieldAddr rfl rfl) ?_
  refine xl_store rfl rfl (hv_store (vs := [.int _ _]) rfl rfl rfl (by first | exact ld_blk_a hr rfl rfl | exact hz | exact ld_blk hr rfl | exact hr) rfl (Nat.le_of_ble_eq_true rfl) rfl) ?_
  rintro v1_5 H1_5 ⟨hU1_5, hZ1_5⟩
  have hX := hX.ofBut hU1_5.but hge
  have hz := hz.but hU1_5.but hne.symm
  have hr := hU1_5.blk
  refine xl_nil ?_
  refine xthen_normal ?_
  refine xc_seq ?_
  refine xc_seq ?_
  refine xc_region ?_
  refine xl_pure rfl rfl rfl (pv_move (v := .int _ _) rfl rfl) ?_
  refine xl_heavy rfl rfl rfl (hv_call (g := 30) rfl rfl (c30 _ _ _) rfl) ?_
  rintro v2_1 H2_1 ⟨r2_1, rfl, hb2_1, rfl⟩
  cases r2_1
  · skip
    replace hb2_1 := mt hb2_1.2 (by decide)
    refine xl_pure rfl rfl rfl (pv_move (v := .bool _) rfl rfl) ?_
    refine xl_skip rfl rfl rfl ?_
    refine xl_skip rfl rfl rfl ?_
    refine xl_skip rfl rfl rfl ?_
    refine xl_pure rfl rfl rfl (pv_pick_f (v := .bool _) rfl rfl rfl) ?_
    refine xl_nil ?_
    refine xthen_normal ?_
    refine xc_cond_f rfl ?_
    refine xc_skip ?_
    refine xthen_normal ?_
    refine xc_seq ?_
    refine xc_region ?_
    refine xl_pure rfl rfl rfl (pv_build_s (cs := [.int _ _, .int _ _, .int _ _, .int _ _, .int _ _, .int _ _, .int _ _, .int _ _, .int _ _, .int _ _, .int _ _, .int _ _, .int _ _, .slice _ _ _, .slice _ _ _, .int _ _, .int _ _, .int _ _, .int _ _]) rfl rfl rfl) ?_
    refine xl_store rfl rfl (hv_storeA (vs := [.int _ _, .int _ _, .int _ _, .int _ _, .int _ _, .int _ _, .int _ _, .int _ _, .int _ _, .int _ _, .int _ _, .int _ _, .int _ _, .slice _ _ _, .slice _ _ _, .int _ _, .int _ _, .int _ _, .int _ _]) rfl rfl rfl (by first | exact ld_blk_a hr rfl rfl | exact hz | exact ld_blk hr rfl | exact hr) rfl (by rfl) rfl) ?_
    rintro v6_1 H6_1 ⟨hU6_1, hZ6_1⟩
    have hX := hX.ofBut hU6_1.but hgz
    have hz := hU6_1.blk
    refine xl_pure rfl rfl rfl (pv_assign (v := .int _ _) rfl rfl) ?_
    refine xl_nil ?_
    refine xthen_normal ?_
    refine xc_ret ?_
    refine fin_ret (resv2 rfl (rv_c (ty := 24) rfl (ld_blk_a hz rfl rfl)) (rv_t (v := .int _ _) rfl)) ?_
    first
      | exact ⟨1, D0, none, none, 0, 0, rfl, (open_bad (fun h => hb2_1 h.1)).symm, res0', hX⟩
      | exact ⟨1, D0, none, none, 0, 0, rfl, (open_bad (fun h => hb2_5 h.2)).symm, res0', hX⟩
      | exact ⟨1, D0, none, none, 0, 0, rfl, (open_no hg4_1).symm, res0', hX⟩
  · skip
    replace hb2_1 := hb2_1.1 rfl
    refine xl_pure rfl rfl rfl (pv_move (v := .bool _) rfl rfl) ?_
    refine xl_pure rfl rfl rfl (pv_fieldAddr rfl rfl) ?_
    refine xl_light rfl rfl rfl (lv_load (v := .int _ _) rfl rfl (by first | exact ld_blk_a hr rfl rfl | exact hz | exact ld_blk hr rfl | exact hr)) ?_
    refine xl_heavy rfl rfl rfl (hv_call (g := 30) rfl rfl (c30 _ _ _) rfl) ?_
    rintro v2_5 H2_5 ⟨r2_5, rfl, hb2_5, rfl⟩
    cases r2_5
    · skip
      replace hb2_5 := mt hb2_5.2 (by decide)
      refine xl_pure rfl rfl rfl (pv_pick_t (v := .bool _) rfl rfl rfl) ?_
      refine xl_nil ?_
      refine xthen_normal ?_
      refine xc_cond_f rfl ?_
      refine xc_skip ?_
      refine xthen_normal ?_
      refine xc_seq ?_
      refine xc_region ?_
      refine xl_pure rfl rfl rfl (pv_build_s (cs := [.int _ _, .int _ _, .int _ _, .int _ _, .int _ _, .int _ _, .int _ _, .int _ _, .int _ _, .int _ _, .int _ _, .int _ _, .int _ _, .slice _ _ _, .slice _ _ _, .int _ _, .int _ _, .int _ _, .int _ _]) rfl rfl rfl) ?_
      refine xl_store rfl rfl (hv_storeA (vs := [.int _ _, .int _ _, .int _ _, .int _ _, .int _ _, .int _ _, .int _ _, .int _ _, .int _ _, .int _ _, .int _ _, .int _ _, .int _ _, .slice _ _ _, .slice _ _ _, .int _ _, .int _ _, .int _ _, .int _ _]) rfl rfl rfl (by first | exact ld_blk_a hr rfl rfl | exact hz | exact ld_blk hr rfl | exact hr) rfl (by rfl) rfl) ?_
      rintro v6_1 H6_1 ⟨hU6_1, hZ6_1⟩
      have hX := hX.ofBut hU6_1.but hgz
      have hz := hU6_1.blk
      refine xl_pure rfl rfl rfl (pv_assign (v := .int _ _) rfl rfl) ?_
      refine xl_nil ?_
      refine xthen_normal ?_
      refine xc_ret ?_
      refine fin_ret (resv2 rfl (rv_c (ty := 24) rfl (ld_blk_a hz rfl rfl)) (rv_t (v := .int _ _) rfl)) ?_
      first
        | exact ⟨1, D0, none, none, 0, 0, rfl, (open_bad (fun h => hb2_1 h.1)).symm, res0', hX⟩
        | exact ⟨1, D0, none, none, 0, 0, rfl, (open_bad (fun h => hb2_5 h.2)).symm, res0', hX⟩
        | exact ⟨1, D0, none, none, 0, 0, rfl, (open_no hg4_1).symm, res0', hX⟩
    · skip
      replace hb2_5 := hb2_5.1 rfl
      refine xl_pure rfl rfl rfl (pv_pick_t (v := .bool _) rfl rfl rfl) ?_
      refine xl_nil ?_
      refine xthen_normal ?_
      refine xc_cond_t rfl ?_
      refine xc_seq ?_
      refine xc_region ?_
      refine xl_pure rfl rfl rfl (pv_move (v := .int _ _) rfl rfl) ?_
      refine xl_pure rfl rfl rfl (pv_fieldAddr rfl rfl) ?_
      refine xl_light rfl rfl rfl (lv_load (v := .int _ _) rfl rfl (by first | exact ld_blk_a hr rfl rfl | exact hz | exact ld_blk hr rfl | exact hr)) ?_
      refine xl_pure rfl rfl rfl (pv_add rfl rfl rfl (fit_i64 (by omega))) ?_
      refine xl_pure rfl rfl rfl (pv_fieldAddr rfl rfl) ?_
      refine xl_store rfl rfl (hv_store (vs := [.int _ _]) rfl rfl rfl (by first | exact ld_blk_a hr rfl rfl | exact hz | exact ld_blk hr rfl | exact hr) rfl (Nat.le_of_ble_eq_true rfl) rfl) ?_
      rintro v3_5 H3_5 ⟨hU3_5, hZ3_5⟩
      have hX := hX.ofBut hU3_5.but hge
      have hz := hz.but hU3_5.but hne.symm
      have hr := hU3_5.blk
      refine xl_nil ?_
      refine xthen_normal ?_
      refine xc_seq ?_
      refine xc_region ?_
      refine xl_light rfl rfl rfl (lv_load (v := .agg _) rfl rfl (by first | exact ld_blk_a hr rfl rfl | exact hz | exact ld_blk hr rfl | exact hr)) ?_
      refine xl_heavy rfl rfl rfl (hv_call (g := 20) rfl rfl (c20 (opened d now) a b c e (hs.ext hX) (hs'.ext hX) hl hl') rfl) ?_
      rintro v4_1 H4_1 ⟨e4_1, rfl, hg4_1, hE4_1⟩
      have hX := hX.trans hE4_1
      have hr := hr.ext hE4_1
      try have hz := hz.ext hE4_1
      rcases hg4_1 with ⟨hg4_1, rfl⟩ | ⟨hg4_1, rfl⟩
      · skip
        refine xl_dec rfl rfl rfl (pv_eql rfl rfl rfl) (fun h4_2 => ?_) (fun h4_2 => ?_)
        · skip
          refine xl_nil ?_
          refine xthen_normal ?_
          refine xc_cond_t rfl ?_
          refine xc_seq ?_
          refine xc_region ?_
          refine xl_light rfl rfl rfl (lv_load (v := .agg _) rfl rfl (by first | exact ld_blk_a hr rfl rfl | exact hz | exact ld_blk hr rfl | exact hr)) ?_
          refine xl_store rfl rfl (hv_storeA (vs := [.int _ _, .int _ _, .int _ _, .int _ _, .int _ _, .int _ _, .int _ _, .int _ _, .int _ _, .int _ _, .int _ _, .int _ _, .int _ _, .slice _ _ _, .slice _ _ _, .int _ _, .int _ _, .int _ _, .int _ _]) rfl rfl rfl (by first | exact ld_blk_a hr rfl rfl | exact hz | exact ld_blk hr rfl | exact hr) rfl (by rfl) rfl) ?_
          rintro v5_1 H5_1 ⟨hU5_1, hZ5_1⟩
          have hX := hX.ofBut hU5_1.but hgz
          have hz := hU5_1.blk
          refine xl_pure rfl rfl rfl (pv_assign (v := .int _ _) rfl rfl) ?_
          refine xl_nil ?_
          refine xthen_normal ?_
          refine xc_ret ?_
          refine xthen_ret ?_
          refine fin_ret (resv2 rfl (rv_c (ty := 24) rfl (ld_blk_a hz rfl rfl)) (rv_t (v := .int _ _) rfl)) ?_
          exact ⟨0, opened d now, a, b, c, e, rfl, (open_ok ⟨hb2_1, hb2_5⟩ hg4_1).symm, .inr ⟨rfl, rfl, rfl, rfl⟩, hX⟩
        · exact absurd (by decide) h4_2
      · skip
        refine xl_dec rfl rfl rfl (pv_eql rfl rfl rfl) (fun h4_2 => ?_) (fun h4_2 => ?_)
        · exact absurd h4_2 (by decide)
        · skip
          refine xl_nil ?_
          refine xthen_normal ?_
          refine xc_cond_f rfl ?_
          refine xc_skip ?_
          refine xthen_normal ?_
          refine xc_seq ?_
          refine xc_region ?_
          refine xl_pure rfl rfl rfl (pv_build_s (cs := [.int _ _, .int _ _, .int _ _, .int _ _, .int _ _, .int _ _, .int _ _, .int _ _, .int _ _, .int _ _, .int _ _, .int _ _, .int _ _, .slice _ _ _, .slice _ _ _, .int _ _, .int _ _, .int _ _, .int _ _]) rfl rfl rfl) ?_
          refine xl_store rfl rfl (hv_storeA (vs := [.int _ _, .int _ _, .int _ _, .int _ _, .int _ _, .int _ _, .int _ _, .int _ _, .int _ _, .int _ _, .int _ _, .int _ _, .int _ _, .slice _ _ _, .slice _ _ _, .int _ _, .int _ _, .int _ _, .int _ _]) rfl rfl rfl (by first | exact ld_blk_a hr rfl rfl | exact hz | exact ld_blk hr rfl | exact hr) rfl (by rfl) rfl) ?_
          rintro v6_1 H6_1 ⟨hU6_1, hZ6_1⟩
          have hX := hX.ofBut hU6_1.but hgz
          have hz := hU6_1.blk
          refine xl_pure rfl rfl rfl (pv_assign (v := .int _ _) rfl rfl) ?_
          refine xl_nil ?_
          refine xthen_normal ?_
          refine xc_ret ?_
          refine fin_ret (resv2 rfl (rv_c (ty := 24) rfl (ld_blk_a hz rfl rfl)) (rv_t (v := .int _ _) rfl)) ?_
          first
            | exact ⟨1, D0, none, none, 0, 0, rfl, (open_bad (fun h => hb2_1 h.1)).symm, res0', hX⟩
            | exact ⟨1, D0, none, none, 0, 0, rfl, (open_bad (fun h => hb2_5 h.2)).symm, res0', hX⟩
            | exact ⟨1, D0, none, none, 0, 0, rfl, (open_no hg4_1).symm, res0', hX⟩

theorem c9 {O : Outer} {H : Heap} (d : D) (a b : Option Addr) (c e : Nat) (now : Int) (hs : Stks H a d.gives) (hs' : Stks H b d.wants) (hl : d.gives.length < 1099511627776) (hl' : d.wants.length < 1099511627776) :
    FnC Try.prog 9 #[.agg (dcs d a b c e).toArray, .int .i64 now] O H (fun v H' => ∃ r x a' b' c' e', v = .tuple #[dv x a' b' c' e', .int .i64 r] ∧ (r, x) = openD d now ∧ Res d x a b a' b' ∧ Ext H H') := by
  refine fn_enter (A := [.agg (dcs d a b c e).toArray, .int .i64 now]) Try.func9 rfl rfl ?_
  refine xc_seq ?_
  refine xc_region ?_
  refine xl_heavy rfl rfl rfl (hv_box rfl rfl) ?_
  rintro v0_0 H0_0 ⟨b0_0, rfl, hN0_0⟩
  have hr := hN0_0.blk
  have hX := hN0_0.ext
  have hge := hN0_0.ge
  refine xl_heavy rfl rfl rfl (hv_alloc rfl rfl) ?_
  rintro v0_1 H0_1 ⟨b0_1, rfl, hN0_1⟩
  have hne := hr.fresh hN0_1.ge
  have hr := hr.ext hN0_1.ext
  have hgz := Nat.le_trans hX.size hN0_1.ge
  have hX := hX.trans hN0_1.ext
  have hz := hN0_1.blk
  refine xl_pure rfl rfl rfl (pv_assign (v := .int _ _) rfl rfl) ?_
  refine xl_nil ?_
  refine xthen_normal ?_
  refine xc_seq ?_
  refine xc_seq ?_
  refine xc_region ?_
  refine xl_pure rfl rfl rfl (pv_move (v := .int _ _) rfl rfl) ?_
  refine xl_heavy rfl rfl rfl (hv_call (g := 31) rfl rfl (c31 _ _ _) rfl) ?_
  rintro v1_1 H1_1 ⟨r1_1, rfl, hb1_1, rfl⟩
  cases r1_1
  · skip
    replace hb1_1 := mt hb1_1.2 (by decide)
    refine xl_pure rfl rfl rfl (pv_not rfl rfl) ?_
    refine xl_pure rfl rfl rfl (pv_move (v := .bool _) rfl rfl) ?_
    refine xl_skip rfl rfl rfl ?_
    refine xl_skip rfl rfl rfl ?_
    refine xl_skip rfl rfl rfl ?_
    refine xl_skip rfl rfl rfl ?_
    refine xl_pure rfl rfl rfl (pv_pick_t (v := .bool _) rfl rfl rfl) ?_
    refine xl_nil ?_
    refine xthen_normal ?_
    refine xc_cond_t rfl ?_
    refine xc_seq ?_
    refine xc_region ?_
    refine xl_pure rfl rfl rfl (pv_build_s (cs := [.int _ _, .int _ _, .int _ _, .int _ _, .int _ _, .int _ _, .int _ _, .int _ _, .int _ _, .int _ _, .int _ _, .int _ _, .int _ _, .slice _ _ _, .slice _ _ _, .int _ _, .int _ _, .int _ _, .int _ _]) rfl rfl rfl) ?_
    refine xl_store rfl rfl (hv_storeA (vs := [.int _ _, .int _ _, .int _ _, .int _ _, .int _ _, .int _ _, .int _ _, .int _ _, .int _ _, .int _ _, .int _ _, .int _ _, .int _ _, .slice _ _ _, .slice _ _ _, .int _ _, .int _ _, .int _ _, .int _ _]) rfl rfl rfl (by first | exact ld_blk_a hr rfl rfl | exact hz | exact ld_blk hr rfl | exact hr) rfl (by rfl) rfl) ?_
    rintro v2_1 H2_1 ⟨hU2_1, hZ2_1⟩
    have hX := hX.ofBut hU2_1.but hgz
    have hz := hU2_1.blk
    refine xl_pure rfl rfl rfl (pv_assign (v := .int _ _) rfl rfl) ?_
    refine xl_nil ?_
    refine xthen_normal ?_
    refine xc_ret ?_
    refine xthen_ret ?_
    refine fin_ret (resv2 rfl (rv_c (ty := 24) rfl (ld_blk_a hz rfl rfl)) (rv_t (v := .int _ _) rfl)) ?_
    first
      | exact ⟨1, D0, none, none, 0, 0, rfl, (open_bad (fun h => hb1_1 h.1)).symm, res0', hX⟩
      | exact ⟨1, D0, none, none, 0, 0, rfl, (open_bad (fun h => hb1_6 h.2)).symm, res0', hX⟩
  · skip
    replace hb1_1 := hb1_1.1 rfl
    refine xl_pure rfl rfl rfl (pv_not rfl rfl) ?_
    refine xl_pure rfl rfl rfl (pv_move (v := .bool _) rfl rfl) ?_
    refine xl_pure rfl rfl rfl (pv_fieldAddr rfl rfl) ?_
    refine xl_light rfl rfl rfl (lv_load (v := .int _ _) rfl rfl (by first | exact ld_blk_a hr rfl rfl | exact hz | exact ld_blk hr rfl | exact hr)) ?_
    refine xl_heavy rfl rfl rfl (hv_call (g := 31) rfl rfl (c31 _ _ _) rfl) ?_
    rintro v1_6 H1_6 ⟨r1_6, rfl, hb1_6, rfl⟩
    cases r1_6
    · skip
      replace hb1_6 := mt hb1_6.2 (by decide)
      refine xl_pure rfl rfl rfl (pv_not rfl rfl) ?_
      refine xl_pure rfl rfl rfl (pv_pick_f (v := .bool _) rfl rfl rfl) ?_
      refine xl_nil ?_
      refine xthen_normal ?_
      refine xc_cond_t rfl ?_
      refine xc_seq ?_
      refine xc_region ?_
      refine xl_pure rfl rfl rfl (pv_build_s (cs := [.int _ _, .int _ _, .int _ _, .int _ _, .int _ _, .int _ _, .int _ _, .int _ _, .int _ _, .int _ _, .int _ _, .int _ _, .int _ _, .slice _ _ _, .slice _ _ _, .int _ _, .int _ _, .int _ _, .int _ _]) rfl rfl rfl) ?_
      refine xl_store rfl rfl (hv_storeA (vs := [.int _ _, .int _ _, .int _ _, .int _ _, .int _ _, .int _ _, .int _ _, .int _ _, .int _ _, .int _ _, .int _ _, .int _ _, .int _ _, .slice _ _ _, .slice _ _ _, .int _ _, .int _ _, .int _ _, .int _ _]) rfl rfl rfl (by first | exact ld_blk_a hr rfl rfl | exact hz | exact ld_blk hr rfl | exact hr) rfl (by rfl) rfl) ?_
      rintro v2_1 H2_1 ⟨hU2_1, hZ2_1⟩
      have hX := hX.ofBut hU2_1.but hgz
      have hz := hU2_1.blk
      refine xl_pure rfl rfl rfl (pv_assign (v := .int _ _) rfl rfl) ?_
      refine xl_nil ?_
      refine xthen_normal ?_
      refine xc_ret ?_
      refine xthen_ret ?_
      refine fin_ret (resv2 rfl (rv_c (ty := 24) rfl (ld_blk_a hz rfl rfl)) (rv_t (v := .int _ _) rfl)) ?_
      first
        | exact ⟨1, D0, none, none, 0, 0, rfl, (open_bad (fun h => hb1_1 h.1)).symm, res0', hX⟩
        | exact ⟨1, D0, none, none, 0, 0, rfl, (open_bad (fun h => hb1_6 h.2)).symm, res0', hX⟩
    · skip
      replace hb1_6 := hb1_6.1 rfl
      refine xl_pure rfl rfl rfl (pv_not rfl rfl) ?_
      refine xl_pure rfl rfl rfl (pv_pick_f (v := .bool _) rfl rfl rfl) ?_
      refine xl_nil ?_
      refine xthen_normal ?_
      refine xc_cond_f rfl ?_
      refine xc_skip ?_
      refine xthen_normal ?_
      refine xc_seq ?_
      refine xc_region ?_
      refine xl_pure rfl rfl rfl (pv_fieldAddr rfl rfl) ?_
      refine xl_store rfl rfl (hv_store (vs := [.int _ _]) rfl rfl rfl (by first | exact ld_blk_a hr rfl rfl | exact hz | exact ld_blk hr rfl | exact hr) rfl (Nat.le_of_ble_eq_true rfl) rfl) ?_
      rintro v3_1 H3_1 ⟨hU3_1, hZ3_1⟩
      have hX := hX.ofBut hU3_1.but hge
      have hz := hz.but hU3_1.but hne.symm
      have hr := hU3_1.blk
      refine xl_nil ?_
      refine xthen_normal ?_
      refine xc_seq ?_
      refine xc_region ?_
      refine xl_pure rfl rfl rfl (pv_move (v := .int _ _) rfl rfl) ?_
      refine xl_pure rfl rfl rfl (pv_fieldAddr rfl rfl) ?_
      refine xl_light rfl rfl rfl (lv_load (v := .int _ _) rfl rfl (by first | exact ld_blk_a hr rfl rfl | exact hz | exact ld_blk hr rfl | exact hr)) ?_
      refine xl_pure rfl rfl rfl (pv_add rfl rfl rfl (fit_i64 (by omega))) ?_
      refine xl_pure rfl rfl rfl (pv_fieldAddr rfl rfl) ?_
      refine xl_store rfl rfl (hv_store (vs := [.int _ _]) rfl rfl rfl (by first | exact ld_blk_a hr rfl rfl | exact hz | exact ld_blk hr rfl | exact hr) rfl (Nat.le_of_ble_eq_true rfl) rfl) ?_
      rintro v4_5 H4_5 ⟨hU4_5, hZ4_5⟩
      have hX := hX.ofBut hU4_5.but hge
      have hz := hz.but hU4_5.but hne.symm
      have hr := hU4_5.blk
      refine xl_nil ?_
      refine xthen_normal ?_
      refine xc_seq ?_
      refine xc_region ?_
      refine xl_pure rfl rfl rfl (pv_fieldAddr rfl rfl) ?_
      refine xl_store rfl rfl (hv_store (vs := [.int _ _]) rfl rfl rfl (by first | exact ld_blk_a hr rfl rfl | exact hz | exact ld_blk hr rfl | exact hr) rfl (Nat.le_of_ble_eq_true rfl) rfl) ?_
      rintro v5_1 H5_1 ⟨hU5_1, hZ5_1⟩
      have hX := hX.ofBut hU5_1.but hge
      have hz := hz.but hU5_1.but hne.symm
      have hr := hU5_1.blk
      refine xl_nil ?_
      refine xthen_normal ?_
      refine xc_seq ?_
      refine xc_region ?_
      refine xl_pure rfl rfl rfl (pv_fieldAddr rfl rfl) ?_
      refine xl_store rfl rfl (hv_store (vs := [.int _ _]) rfl rfl rfl (by first | exact ld_blk_a hr rfl rfl | exact hz | exact ld_blk hr rfl | exact hr) rfl (Nat.le_of_ble_eq_true rfl) rfl) ?_
      rintro v6_1 H6_1 ⟨hU6_1, hZ6_1⟩
      have hX := hX.ofBut hU6_1.but hge
      have hz := hz.but hU6_1.but hne.symm
      have hr := hU6_1.blk
      refine xl_nil ?_
      refine xthen_normal ?_
      refine xc_seq ?_
      refine xc_seq ?_
      refine xc_region ?_
      refine xl_light rfl rfl rfl (lv_load (v := .agg _) rfl rfl (by first | exact ld_blk_a hr rfl rfl | exact hz | exact ld_blk hr rfl | exact hr)) ?_
      refine xl_heavy rfl rfl rfl (hv_call (g := 21) rfl rfl (c21 (opened d now) a b c e (hs.ext hX) (hs'.ext hX) hl hl') rfl) ?_
      rintro v7_1 H7_1 ⟨e7_1, rfl, hg7_1, hE7_1⟩
      have hX := hX.trans hE7_1
      have hr := hr.ext hE7_1
      try have hz := hz.ext hE7_1
      rcases hg7_1 with ⟨hg7_1, rfl⟩ | ⟨hg7_1, rfl⟩
      · skip
        refine xl_ndec rfl rfl rfl (pv_neq rfl rfl rfl) (fun h7_2 => ?_) (fun h7_2 => ?_)
        · skip
          refine xl_nil ?_
          refine xthen_normal ?_
          refine xc_cond_f rfl ?_
          refine xc_skip ?_
          refine xthen_normal ?_
          refine xc_seq ?_
          refine xc_region ?_
          refine xl_light rfl rfl rfl (lv_load (v := .agg _) rfl rfl (by first | exact ld_blk_a hr rfl rfl | exact hz | exact ld_blk hr rfl | exact hr)) ?_
          refine xl_store rfl rfl (hv_storeA (vs := [.int _ _, .int _ _, .int _ _, .int _ _, .int _ _, .int _ _, .int _ _, .int _ _, .int _ _, .int _ _, .int _ _, .int _ _, .int _ _, .slice _ _ _, .slice _ _ _, .int _ _, .int _ _, .int _ _, .int _ _]) rfl rfl rfl (by first | exact ld_blk_a hr rfl rfl | exact hz | exact ld_blk hr rfl | exact hr) rfl (by rfl) rfl) ?_
          rintro v9_1 H9_1 ⟨hU9_1, hZ9_1⟩
          have hX := hX.ofBut hU9_1.but hgz
          have hz := hU9_1.blk
          refine xl_pure rfl rfl rfl (pv_assign (v := .int _ _) rfl rfl) ?_
          refine xl_nil ?_
          refine xthen_normal ?_
          refine xc_ret ?_
          refine fin_ret (resv2 rfl (rv_c (ty := 24) rfl (ld_blk_a hz rfl rfl)) (rv_t (v := .int _ _) rfl)) ?_
          exact ⟨0, opened d now, a, b, c, e, rfl, (open_ok ⟨hb1_1, hb1_6⟩ hg7_1).symm, .inr ⟨rfl, rfl, rfl, rfl⟩, hX⟩
        · exact absurd (by decide) h7_2
      · skip
        refine xl_ndec rfl rfl rfl (pv_neq rfl rfl rfl) (fun h7_2 => ?_) (fun h7_2 => ?_)
        · exact absurd h7_2 (by decide)
        · skip
          refine xl_nil ?_
          refine xthen_normal ?_
          refine xc_cond_t rfl ?_
          refine xc_seq ?_
          refine xc_region ?_
          refine xl_pure rfl rfl rfl (pv_build_s (cs := [.int _ _, .int _ _, .int _ _, .int _ _, .int _ _, .int _ _, .int _ _, .int _ _, .int _ _, .int _ _, .int _ _, .int _ _, .int _ _, .slice _ _ _, .slice _ _ _, .int _ _, .int _ _, .int _ _, .int _ _]) rfl rfl rfl) ?_
          refine xl_store rfl rfl (hv_storeA (vs := [.int _ _, .int _ _, .int _ _, .int _ _, .int _ _, .int _ _, .int _ _, .int _ _, .int _ _, .int _ _, .int _ _, .int _ _, .int _ _, .slice _ _ _, .slice _ _ _, .int _ _, .int _ _, .int _ _, .int _ _]) rfl rfl rfl (by first | exact ld_blk_a hr rfl rfl | exact hz | exact ld_blk hr rfl | exact hr) rfl (by rfl) rfl) ?_
          rintro v8_1 H8_1 ⟨hU8_1, hZ8_1⟩
          have hX := hX.ofBut hU8_1.but hgz
          have hz := hU8_1.blk
          refine xl_pure rfl rfl rfl (pv_assign (v := .int _ _) rfl rfl) ?_
          refine xl_nil ?_
          refine xthen_normal ?_
          refine xc_ret ?_
          refine xthen_ret ?_
          refine fin_ret (resv2 rfl (rv_c (ty := 24) rfl (ld_blk_a hz rfl rfl)) (rv_t (v := .int _ _) rfl)) ?_
          exact ⟨1, D0, none, none, 0, 0, rfl, (open_no hg7_1).symm, res0', hX⟩
end Go.XG
