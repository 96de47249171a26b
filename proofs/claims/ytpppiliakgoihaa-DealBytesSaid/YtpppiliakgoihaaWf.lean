/-
  Walks of the seat's functions over the logic XG: each function, what it computes. Printed by a program out of wip/walks.py.
-/
import Derived.Test.YtpppiliakgoihaaI
import Derived.Test.YtpppiliakgoihaaG
import Derived.Test.YtpppiliakgoihaaP
import Derived.Test.YtpppiliakgoihaaWa
import Derived.Test.YtpppiliakgoihaaWb
import Derived.Test.YtpppiliakgoihaaWc
import Derived.Test.YtpppiliakgoihaaWd
import Derived.Test.YtpppiliakgoihaaQ
import Derived.Test.YtpppiliakgoihaaR
import Derived.Test.YtpppiliakgoihaaXg
import Derived.Test.YtpppiliakgoihaaWe
namespace Go.XG
open Go.Proofs
set_option maxRecDepth 4000
set_option maxHeartbeats 4000000
theorem c12 {O : Outer} {H : Heap} (d : D) (a b : Option Addr) (c e : Nat) (s : Int) (hs : Stks H a d.gives) (hs' : Stks H b d.wants) (hl : d.gives.length < 1099511627776) (hl' : d.wants.length < 1099511627776) :
    FnC Try.prog 12 #[.agg (dcs d a b c e).toArray, .int .i64 s] O H (fun v H' => ∃ r x a' b' c' e', v = .tuple #[dv x a' b' c' e', .int .i64 r] ∧ (r, x) = endD d s ∧ Res d x a b a' b' ∧ Ext H H') := by
  refine fn_enter (A := [.agg (dcs d a b c e).toArray, .int .i64 s]) Try.func12 rfl rfl ?_
  refine xc_seq ?_
  refine xc_region ?_
  refine xl_heavy rfl rfl rfl (hv_box rfl rfl) ?_
  rintro v0_0 H0_0 ⟨b0_0, rfl, hN0_0⟩
  have hr := hN0_0.blk
  have hX := hN0_0.ext
  have hge := hN0_0.ge
  refine xl_heavy rfl rfl rfl (hv_alloc rfl rfl) ?_
  rintro v0_1 H0_1 ⟨b0_1, rfl, hN0_1⟩
  have hne := hr.fresh hN0_1.ge
  have hr := hr.ext hN0_1.ext
  have hgz := Nat.le_trans hX.size hN0_1.ge
  have hX := hX.trans hN0_1.ext
  have hz := hN0_1.blk
  refine xl_pure rfl rfl rfl (pv_assign (v := .int _ _) rfl rfl) ?_
  refine xl_nil ?_
  refine xthen_normal ?_
  refine xc_seq ?_
  refine xc_block ?_
  refine xc_seq ?_
  refine xc_region ?_
  refine xl_light rfl rfl rfl (lv_load (v := .agg _) rfl rfl (by first | exact ld_blk_a hr rfl rfl | exact hz | exact ld_blk hr rfl | exact hr)) ?_
  refine xl_heavy rfl rfl rfl (hv_call (g := 20) rfl rfl (c20 d a b c e (hs.ext hX) (hs'.ext hX) hl hl') rfl) ?_
  rintro v1_1 H1_1 ⟨e1_1, rfl, hg1_1, hE1_1⟩
  have hX := hX.trans hE1_1
  have hr := hr.ext hE1_1
  try have hz := hz.ext hE1_1
  rcases hg1_1 with ⟨hg1_1, rfl⟩ | ⟨hg1_1, rfl⟩
  · skip
    refine xl_ndec rfl rfl rfl (pv_neq rfl rfl rfl) (fun h1_2 => ?_) (fun h1_2 => ?_)
    · skip
      refine xl_pure rfl rfl rfl (pv_assign (v := .bool _) rfl rfl) ?_
      refine xl_nil ?_
      refine xthen_normal ?_
      refine xc_cond_f rfl ?_
      refine xc_seq ?_
      refine xc_region ?_
      refine xl_light rfl rfl rfl (lv_load (v := .agg _) rfl rfl (by first | exact ld_blk_a hr rfl rfl | exact hz | exact ld_blk hr rfl | exact hr)) ?_
      refine xl_pure rfl rfl rfl (pv_move (v := .int _ _) rfl rfl) ?_
      refine xl_heavy rfl rfl rfl (hv_call (g := 32) rfl rfl (c32 d a b c e s) rfl) ?_
      rintro v3_2 H3_2 ⟨r3_2, rfl, hb3_2, hE3_2⟩
      have hX := hX.trans hE3_2
      have hr := hr.ext hE3_2
      have hz := hz.ext hE3_2
      cases r3_2
      · skip
        replace hb3_2 := mt hb3_2.2 (by decide)
        refine xl_pure rfl rfl rfl (pv_not rfl rfl) ?_
        refine xl_pure rfl rfl rfl (pv_assign (v := .bool _) rfl rfl) ?_
        refine xl_nil ?_
        refine xthen_normal ?_
        refine xc_cond_t rfl ?_
        refine xc_seq ?_
        refine xc_region ?_
        refine xl_pure rfl rfl rfl (pv_build_s (cs := [.int _ _, .int _ _, .int _ _, .int _ _, .int _ _, .int _ _, .int _ _, .int _ _, .int _ _, .int _ _, .int _ _, .int _ _, .int _ _, .slice _ _ _, .slice _ _ _, .int _ _, .int _ _, .int _ _, .int _ _]) rfl rfl rfl) ?_
        refine xl_store rfl rfl (hv_storeA (vs := [.int _ _, .int _ _, .int _ _, .int _ _, .int _ _, .int _ _, .int _ _, .int _ _, .int _ _, .int _ _, .int _ _, .int _ _, .int _ _, .slice _ _ _, .slice _ _ _, .int _ _, .int _ _, .int _ _, .int _ _]) rfl rfl rfl (by first | exact ld_blk_a hr rfl rfl | exact hz | exact ld_blk hr rfl | exact hr) rfl (by rfl) rfl) ?_
        rintro v4_1 H4_1 ⟨hU4_1, hZ4_1⟩
        have hX := hX.ofBut hU4_1.but hgz
        have hz := hU4_1.blk
        refine xl_pure rfl rfl rfl (pv_assign (v := .int _ _) rfl rfl) ?_
        refine xl_nil ?_
        refine xthen_normal ?_
        refine xc_ret ?_
        refine xblock_ret ?_
        refine xthen_ret ?_
        refine fin_ret (resv2 rfl (rv_c (ty := 24) rfl (ld_blk_a hz rfl rfl)) (rv_t (v := .int _ _) rfl)) ?_
        exact ⟨9, D0, none, none, 0, 0, rfl, (end_no hg1_1 hb3_2).symm, res0', hX⟩
      · skip
        replace hb3_2 := hb3_2.1 rfl
        refine xl_pure rfl rfl rfl (pv_not rfl rfl) ?_
        refine xl_pure rfl rfl rfl (pv_assign (v := .bool _) rfl rfl) ?_
        refine xl_nil ?_
        refine xthen_normal ?_
        refine xc_cond_f rfl ?_
        refine xc_skip ?_
        refine xblock_normal ?_
        refine xthen_normal ?_
        refine xc_seq ?_
        refine xc_region ?_
        refine xl_pure rfl rfl rfl (pv_move (v := .int _ _) rfl rfl) ?_
        refine xl_pure rfl rfl rfl (pv_fieldAddr rfl rfl) ?_
        refine xl_store rfl rfl (hv_store (vs := [.int _ _]) rfl rfl rfl (by first | exact ld_blk_a hr rfl rfl | exact hz | exact ld_blk hr rfl | exact hr) rfl (Nat.le_of_ble_eq_true rfl) rfl) ?_
        rintro v5_2 H5_2 ⟨hU5_2, hZ5_2⟩
        have hX := hX.ofBut hU5_2.but hge
        have hz := hz.but hU5_2.but hne.symm
        have hr := hU5_2.blk
        refine xl_pure rfl rfl rfl (pv_fieldAddr rfl rfl) ?_
        refine xl_store rfl rfl (hv_store (vs := [.int _ _]) rfl rfl rfl (by first | exact ld_blk_a hr rfl rfl | exact hz | exact ld_blk hr rfl | exact hr) rfl (Nat.le_of_ble_eq_true rfl) rfl) ?_
        rintro v5_4 H5_4 ⟨hU5_4, hZ5_4⟩
        have hX := hX.ofBut hU5_4.but hge
        have hz := hz.but hU5_4.but hne.symm
        have hr := hU5_4.blk
        refine xl_nil ?_
        refine xthen_normal ?_
        refine xc_seq ?_
        refine xc_region ?_
        refine xl_light rfl rfl rfl (lv_load (v := .agg _) rfl rfl (by first | exact ld_blk_a hr rfl rfl | exact hz | exact ld_blk hr rfl | exact hr)) ?_
        refine xl_store rfl rfl (hv_storeA (vs := [.int _ _, .int _ _, .int _ _, .int _ _, .int _ _, .int _ _, .int _ _, .int _ _, .int _ _, .int _ _, .int _ _, .int _ _, .int _ _, .slice _ _ _, .slice _ _ _, .int _ _, .int _ _, .int _ _, .int _ _]) rfl rfl rfl (by first | exact ld_blk_a hr rfl rfl | exact hz | exact ld_blk hr rfl | exact hr) rfl (by rfl) rfl) ?_
        rintro v6_1 H6_1 ⟨hU6_1, hZ6_1⟩
        have hX := hX.ofBut hU6_1.but hgz
        have hz := hU6_1.blk
        refine xl_pure rfl rfl rfl (pv_assign (v := .int _ _) rfl rfl) ?_
        refine xl_nil ?_
        refine xthen_normal ?_
        refine xc_ret ?_
        refine fin_ret (resv2 rfl (rv_c (ty := 24) rfl (ld_blk_a hz rfl rfl)) (rv_t (v := .int _ _) rfl)) ?_
        exact ⟨0, { d with st := s, due := 0 }, a, b, c, e, rfl, (end_ok hg1_1 hb3_2).symm, .inr ⟨rfl, rfl, rfl, rfl⟩, hX⟩
    · exact absurd (by decide) h1_2
  · skip
    refine xl_ndec rfl rfl rfl (pv_neq rfl rfl rfl) (fun h1_2 => ?_) (fun h1_2 => ?_)
    · exact absurd h1_2 (by decide)
    · skip
      refine xl_pure rfl rfl rfl (pv_assign (v := .bool _) rfl rfl) ?_
      refine xl_nil ?_
      refine xthen_normal ?_
      refine xc_cond_t rfl ?_
      refine xc_seq ?_
      refine xc_region ?_
      refine xl_pure rfl rfl rfl (pv_build_s (cs := [.int _ _, .int _ _, .int _ _, .int _ _, .int _ _, .int _ _, .int _ _, .int _ _, .int _ _, .int _ _, .int _ _, .int _ _, .int _ _, .slice _ _ _, .slice _ _ _, .int _ _, .int _ _, .int _ _, .int _ _]) rfl rfl rfl) ?_
      refine xl_store rfl rfl (hv_storeA (vs := [.int _ _, .int _ _, .int _ _, .int _ _, .int _ _, .int _ _, .int _ _, .int _ _, .int _ _, .int _ _, .int _ _, .int _ _, .int _ _, .slice _ _ _, .slice _ _ _, .int _ _, .int _ _, .int _ _, .int _ _]) rfl rfl rfl (by first | exact ld_blk_a hr rfl rfl | exact hz | exact ld_blk hr rfl | exact hr) rfl (by rfl) rfl) ?_
      rintro v2_1 H2_1 ⟨hU2_1, hZ2_1⟩
      have hX := hX.ofBut hU2_1.but hgz
      have hz := hU2_1.blk
      refine xl_pure rfl rfl rfl (pv_assign (v := .int _ _) rfl rfl) ?_
      refine xl_nil ?_
      refine xthen_normal ?_
      refine xc_ret ?_
      refine xblock_ret ?_
      refine xthen_ret ?_
      refine fin_ret (resv2 rfl (rv_c (ty := 24) rfl (ld_blk_a hz rfl rfl)) (rv_t (v := .int _ _) rfl)) ?_
      exact ⟨1, D0, none, none, 0, 0, rfl, (end_bad hg1_1).symm, res0', hX⟩

theorem c13 {O : Outer} {H : Heap} (d : D) (a b : Option Addr) (c e : Nat) (s : Int) (hs : Stks H a d.gives) (hs' : Stks H b d.wants) (hl : d.gives.length < 1099511627776) (hl' : d.wants.length < 1099511627776) :
    FnC Try.prog 13 #[.agg (dcs d a b c e).toArray, .int .i64 s] O H (fun v H' => ∃ r x a' b' c' e', v = .tuple #[dv x a' b' c' e', .int .i64 r] ∧ (r, x) = endD d s ∧ Res d x a b a' b' ∧ Ext H H') := by
  refine fn_enter (A := [.agg (dcs d a b c e).toArray, .int .i64 s]) Try.func13 rfl rfl ?_
  refine xc_seq ?_
  refine xc_region ?_
  refine xl_heavy rfl rfl rfl (hv_box rfl rfl) ?_
  rintro v0_0 H0_0 ⟨b0_0, rfl, hN0_0⟩
  have hr := hN0_0.blk
  have hX := hN0_0.ext
  have hge := hN0_0.ge
  refine xl_heavy rfl rfl rfl (hv_alloc rfl rfl) ?_
  rintro v0_1 H0_1 ⟨b0_1, rfl, hN0_1⟩
  have hne := hr.fresh hN0_1.ge
  have hr := hr.ext hN0_1.ext
  have hgz := Nat.le_trans hX.size hN0_1.ge
  have hX := hX.trans hN0_1.ext
  have hz := hN0_1.blk
  refine xl_pure rfl rfl rfl (pv_assign (v := .int _ _) rfl rfl) ?_
  refine xl_nil ?_
  refine xthen_normal ?_
  refine xc_seq ?_
  refine xc_seq ?_
  refine xc_region ?_
  refine xl_light rfl rfl rfl (lv_load (v := .agg _) rfl rfl (by first | exact ld_blk_a hr rfl rfl | exact hz | exact ld_blk hr rfl | exact hr)) ?_
  refine xl_heavy rfl rfl rfl (hv_call (g := 21) rfl rfl (c21 d a b c e (hs.ext hX) (hs'.ext hX) hl hl') rfl) ?_
  rintro v1_1 H1_1 ⟨e1_1, rfl, hg1_1, hE1_1⟩
  have hX := hX.trans hE1_1
  have hr := hr.ext hE1_1
  try have hz := hz.ext hE1_1
  rcases hg1_1 with ⟨hg1_1, rfl⟩ | ⟨hg1_1, rfl⟩
  · skip
    refine xl_ndec rfl rfl rfl (pv_neq rfl rfl rfl) (fun h1_2 => ?_) (fun h1_2 => ?_)
    · skip
      refine xl_nil ?_
      refine xthen_normal ?_
      refine xc_cond_f rfl ?_
      refine xc_skip ?_
      refine xthen_normal ?_
      refine xc_seq ?_
      refine xc_seq ?_
      refine xc_region ?_
      refine xl_light rfl rfl rfl (lv_load (v := .agg _) rfl rfl (by first | exact ld_blk_a hr rfl rfl | exact hz | exact ld_blk hr rfl | exact hr)) ?_
      refine xl_pure rfl rfl rfl (pv_move (v := .int _ _) rfl rfl) ?_
      refine xl_heavy rfl rfl rfl (hv_call (g := 33) rfl rfl (c33 d a b c e s) rfl) ?_
      rintro v3_2 H3_2 ⟨r3_2, rfl, hb3_2, hE3_2⟩
      have hX := hX.trans hE3_2
      have hr := hr.ext hE3_2
      have hz := hz.ext hE3_2
      cases r3_2
      · skip
        replace hb3_2 := mt hb3_2.2 (by decide)
        refine xl_pure rfl rfl rfl (pv_not rfl rfl) ?_
        refine xl_nil ?_
        refine xthen_normal ?_
        refine xc_cond_t rfl ?_
        refine xc_seq ?_
        refine xc_region ?_
        refine xl_pure rfl rfl rfl (pv_build_s (cs := [.int _ _, .int _ _, .int _ _, .int _ _, .int _ _, .int _ _, .int _ _, .int _ _, .int _ _, .int _ _, .int _ _, .int _ _, .int _ _, .slice _ _ _, .slice _ _ _, .int _ _, .int _ _, .int _ _, .int _ _]) rfl rfl rfl) ?_
        refine xl_store rfl rfl (hv_storeA (vs := [.int _ _, .int _ _, .int _ _, .int _ _, .int _ _, .int _ _, .int _ _, .int _ _, .int _ _, .int _ _, .int _ _, .int _ _, .int _ _, .slice _ _ _, .slice _ _ _, .int _ _, .int _ _, .int _ _, .int _ _]) rfl rfl rfl (by first | exact ld_blk_a hr rfl rfl | exact hz | exact ld_blk hr rfl | exact hr) rfl (by rfl) rfl) ?_
        rintro v4_1 H4_1 ⟨hU4_1, hZ4_1⟩
        have hX := hX.ofBut hU4_1.but hgz
        have hz := hU4_1.blk
        refine xl_pure rfl rfl rfl (pv_assign (v := .int _ _) rfl rfl) ?_
        refine xl_nil ?_
        refine xthen_normal ?_
        refine xc_ret ?_
        refine xthen_ret ?_
        refine fin_ret (resv2 rfl (rv_c (ty := 24) rfl (ld_blk_a hz rfl rfl)) (rv_t (v := .int _ _) rfl)) ?_
        exact ⟨9, D0, none, none, 0, 0, rfl, (end_no hg1_1 hb3_2).symm, res0', hX⟩
      · skip
        replace hb3_2 := hb3_2.1 rfl
        refine xl_pure rfl rfl rfl (pv_not rfl rfl) ?_
        refine xl_nil ?_
        refine xthen_normal ?_
        refine xc_cond_f rfl ?_
        refine xc_skip ?_
        refine xthen_normal ?_
        refine xc_seq ?_
        refine xc_region ?_
        refine xl_pure rfl rfl rfl (pv_move (v := .int _ _) rfl rfl) ?_
        refine xl_pure rfl rfl rfl (pv_fieldAddr rfl rfl) ?_
        refine xl_store rfl rfl (hv_store (vs := [.int _ _]) rfl rfl rfl (by first | exact ld_blk_a hr rfl rfl | exact hz | exact ld_blk hr rfl | exact hr) rfl (Nat.le_of_ble_eq_true rfl) rfl) ?_
        rintro v5_2 H5_2 ⟨hU5_2, hZ5_2⟩
        have hX := hX.ofBut hU5_2.but hge
        have hz := hz.but hU5_2.but hne.symm
        have hr := hU5_2.blk
        refine xl_nil ?_
        refine xthen_normal ?_
        refine xc_seq ?_
        refine xc_region ?_
        refine xl_pure rfl rfl rfl (pv_fieldAddr rfl rfl) ?_
        refine xl_store rfl rfl (hv_store (vs := [.int _ _]) rfl rfl rfl (by first | exact ld_blk_a hr rfl rfl | exact hz | exact ld_blk hr rfl | exact hr) rfl (Nat.le_of_ble_eq_true rfl) rfl) ?_
        rintro v6_1 H6_1 ⟨hU6_1, hZ6_1⟩
        have hX := hX.ofBut hU6_1.but hge
        have hz := hz.but hU6_1.but hne.symm
        have hr := hU6_1.blk
        refine xl_nil ?_
        refine xthen_normal ?_
        refine xc_seq ?_
        refine xc_region ?_
        refine xl_light rfl rfl rfl (lv_load (v := .agg _) rfl rfl (by first | exact ld_blk_a hr rfl rfl | exact hz | exact ld_blk hr rfl | exact hr)) ?_
        refine xl_store rfl rfl (hv_storeA (vs := [.int _ _, .int _ _, .int _ _, .int _ _, .int _ _, .int _ _, .int _ _, .int _ _, .int _ _, .int _ _, .int _ _, .int _ _, .int _ _, .slice _ _ _, .slice _ _ _, .int _ _, .int _ _, .int _ _, .int _ _]) rfl rfl rfl (by first | exact ld_blk_a hr rfl rfl | exact hz | exact ld_blk hr rfl | exact hr) rfl (by rfl) rfl) ?_
        rintro v7_1 H7_1 ⟨hU7_1, hZ7_1⟩
        have hX := hX.ofBut hU7_1.but hgz
        have hz := hU7_1.blk
        refine xl_pure rfl rfl rfl (pv_assign (v := .int _ _) rfl rfl) ?_
        refine xl_nil ?_
        refine xthen_normal ?_
        refine xc_ret ?_
        refine fin_ret (resv2 rfl (rv_c (ty := 24) rfl (ld_blk_a hz rfl rfl)) (rv_t (v := .int _ _) rfl)) ?_
        exact ⟨0, { d with st := s, due := 0 }, a, b, c, e, rfl, (end_ok hg1_1 hb3_2).symm, .inr ⟨rfl, rfl, rfl, rfl⟩, hX⟩
    · exact absurd (by decide) h1_2
  · skip
    refine xl_ndec rfl rfl rfl (pv_neq rfl rfl rfl) (fun h1_2 => ?_) (fun h1_2 => ?_)
    · exact absurd h1_2 (by decide)
    · skip
      refine xl_nil ?_
      refine xthen_normal ?_
      refine xc_cond_t rfl ?_
      refine xc_seq ?_
      refine xc_region ?_
      refine xl_pure rfl rfl rfl (pv_build_s (cs := [.int _ _, .int _ _, .int _ _, .int _ _, .int _ _, .int _ _, .int _ _, .int _ _, .int _ _, .int _ _, .int _ _, .int _ _, .int _ _, .slice _ _ _, .slice _ _ _, .int _ _, .int _ _, .int _ _, .int _ _]) rfl rfl rfl) ?_
      refine xl_store rfl rfl (hv_storeA (vs := [.int _ _, .int _ _, .int _ _, .int _ _, .int _ _, .int _ _, .int _ _, .int _ _, .int _ _, .int _ _, .int _ _, .int _ _, .int _ _, .slice _ _ _, .slice _ _ _, .int _ _, .int _ _, .int _ _, .int _ _]) rfl rfl rfl (by first | exact ld_blk_a hr rfl rfl | exact hz | exact ld_blk hr rfl | exact hr) rfl (by rfl) rfl) ?_
      rintro v2_1 H2_1 ⟨hU2_1, hZ2_1⟩
      have hX := hX.ofBut hU2_1.but hgz
      have hz := hU2_1.blk
      refine xl_pure rfl rfl rfl (pv_assign (v := .int _ _) rfl rfl) ?_
      refine xl_nil ?_
      refine xthen_normal ?_
      refine xc_ret ?_
      refine xthen_ret ?_
      refine fin_ret (resv2 rfl (rv_c (ty := 24) rfl (ld_blk_a hz rfl rfl)) (rv_t (v := .int _ _) rfl)) ?_
      exact ⟨1, D0, none, none, 0, 0, rfl, (end_bad hg1_1).symm, res0', hX⟩

theorem c14 {O : Outer} {H : Heap} (d : D) (a b : Option Addr) (c e : Nat) (hs : Stks H a d.gives) (hs' : Stks H b d.wants) (hl : d.gives.length < 1099511627776) (hl' : d.wants.length < 1099511627776) :
    FnC Try.prog 14 #[.agg (dcs d a b c e).toArray] O H (fun v H' => ∃ n r, v = .tuple #[.int .i64 n, .int .i64 r] ∧ (n, r) = lateD d ∧ Ext H H') := by
  refine fn_enter (A := [.agg (dcs d a b c e).toArray]) Try.func14 rfl rfl ?_
  refine xc_seq ?_
  refine xc_region ?_
  refine xl_heavy rfl rfl rfl (hv_box rfl rfl) ?_
  rintro v0_0 H0_0 ⟨b0_0, rfl, hN0_0⟩
  have hr := hN0_0.blk
  have hX := hN0_0.ext
  refine xl_pure rfl rfl rfl (pv_assign (v := .int _ _) rfl rfl) ?_
  refine xl_pure rfl rfl rfl (pv_assign (v := .int _ _) rfl rfl) ?_
  refine xl_nil ?_
  refine xthen_normal ?_
  refine xc_seq ?_
  refine xc_block ?_
  refine xc_seq ?_
  refine xc_region ?_
  refine xl_light rfl rfl rfl (lv_load (v := .agg _) rfl rfl (by first | exact ld_blk_a hr rfl rfl | exact ld_blk hr rfl)) ?_
  refine xl_heavy rfl rfl rfl (hv_call (g := 20) rfl rfl (c20 d a b c e (hs.ext hX) (hs'.ext hX) hl hl') rfl) ?_
  rintro v1_1 H1_1 ⟨e1_1, rfl, hg1_1, hE1_1⟩
  have hX := hX.trans hE1_1
  have hr := hr.ext hE1_1
  try have hz := hz.ext hE1_1
  rcases hg1_1 with ⟨hg1_1, rfl⟩ | ⟨hg1_1, rfl⟩
  · skip
    refine xl_ndec rfl rfl rfl (pv_neq rfl rfl rfl) (fun h1_2 => ?_) (fun h1_2 => ?_)
    · skip
      refine xl_pure rfl rfl rfl (pv_assign (v := .bool _) rfl rfl) ?_
      refine xl_nil ?_
      refine xthen_normal ?_
      refine xc_cond_f rfl ?_
      refine xc_seq ?_
      refine xc_region ?_
      refine xl_pure rfl rfl rfl (pv_fieldAddr rfl rfl) ?_
      refine xl_light rfl rfl rfl (lv_load (v := .int _ _) rfl rfl (by first | exact ld_blk_a hr rfl rfl | exact ld_blk hr rfl)) ?_
      refine xl_dec rfl rfl rfl (pv_eql rfl rfl rfl) (fun h3_2 => ?_) (fun h3_2 => ?_)
      · skip
        refine xl_pure rfl rfl rfl (pv_assign (v := .bool _) rfl rfl) ?_
        refine xl_nil ?_
        refine xthen_normal ?_
        refine xc_cond_t rfl ?_
        refine xc_seq ?_
        refine xc_region ?_
        refine xl_pure rfl rfl rfl (pv_assign (v := .int _ _) rfl rfl) ?_
        refine xl_pure rfl rfl rfl (pv_assign (v := .int _ _) rfl rfl) ?_
        refine xl_nil ?_
        refine xthen_normal ?_
        refine xc_ret ?_
        refine xblock_ret ?_
        refine xthen_ret ?_
        refine fin_ret (res2 (v := .int _ _) (x := .int _ _) rfl rfl rfl) ?_
        exact ⟨7, 0, rfl, (late_1 hg1_1 h3_2).symm, hX⟩
      · skip
        refine xl_pure rfl rfl rfl (pv_assign (v := .bool _) rfl rfl) ?_
        refine xl_nil ?_
        refine xthen_normal ?_
        refine xc_cond_f rfl ?_
        refine xc_seq ?_
        refine xc_region ?_
        refine xl_pure rfl rfl rfl (pv_fieldAddr rfl rfl) ?_
        refine xl_light rfl rfl rfl (lv_load (v := .int _ _) rfl rfl (by first | exact ld_blk_a hr rfl rfl | exact ld_blk hr rfl)) ?_
        refine xl_dec rfl rfl rfl (pv_eql rfl rfl rfl) (fun h5_2 => ?_) (fun h5_2 => ?_)
        · skip
          refine xl_pure rfl rfl rfl (pv_assign (v := .bool _) rfl rfl) ?_
          refine xl_nil ?_
          refine xthen_normal ?_
          refine xc_cond_t rfl ?_
          refine xc_seq ?_
          refine xc_region ?_
          refine xl_pure rfl rfl rfl (pv_assign (v := .int _ _) rfl rfl) ?_
          refine xl_pure rfl rfl rfl (pv_assign (v := .int _ _) rfl rfl) ?_
          refine xl_nil ?_
          refine xthen_normal ?_
          refine xc_ret ?_
          refine xblock_ret ?_
          refine xthen_ret ?_
          refine fin_ret (res2 (v := .int _ _) (x := .int _ _) rfl rfl rfl) ?_
          exact ⟨4, 0, rfl, (late_2 hg1_1 h5_2).symm, hX⟩
        · skip
          refine xl_pure rfl rfl rfl (pv_assign (v := .bool _) rfl rfl) ?_
          refine xl_nil ?_
          refine xthen_normal ?_
          refine xc_cond_f rfl ?_
          refine xc_skip ?_
          refine xblock_normal ?_
          refine xthen_normal ?_
          refine xc_seq ?_
          refine xc_region ?_
          refine xl_pure rfl rfl rfl (pv_assign (v := .int _ _) rfl rfl) ?_
          refine xl_pure rfl rfl rfl (pv_assign (v := .int _ _) rfl rfl) ?_
          refine xl_nil ?_
          refine xthen_normal ?_
          refine xc_ret ?_
          refine fin_ret (res2 (v := .int _ _) (x := .int _ _) rfl rfl rfl) ?_
          exact ⟨0, 9, rfl, (late_no hg1_1 h3_2 h5_2).symm, hX⟩
    · exact absurd (by decide) h1_2
  · skip
    refine xl_ndec rfl rfl rfl (pv_neq rfl rfl rfl) (fun h1_2 => ?_) (fun h1_2 => ?_)
    · exact absurd h1_2 (by decide)
    · skip
      refine xl_pure rfl rfl rfl (pv_assign (v := .bool _) rfl rfl) ?_
      refine xl_nil ?_
      refine xthen_normal ?_
      refine xc_cond_t rfl ?_
      refine xc_seq ?_
      refine xc_region ?_
      refine xl_pure rfl rfl rfl (pv_assign (v := .int _ _) rfl rfl) ?_
      refine xl_pure rfl rfl rfl (pv_assign (v := .int _ _) rfl rfl) ?_
      refine xl_nil ?_
      refine xthen_normal ?_
      refine xc_ret ?_
      refine xblock_ret ?_
      refine xthen_ret ?_
      refine fin_ret (res2 (v := .int _ _) (x := .int _ _) rfl rfl rfl) ?_
      exact ⟨0, 1, rfl, (late_bad hg1_1).symm, hX⟩

theorem c15 {O : Outer} {H : Heap} (d : D) (a b : Option Addr) (c e : Nat) (hs : Stks H a d.gives) (hs' : Stks H b d.wants) (hl : d.gives.length < 1099511627776) (hl' : d.wants.length < 1099511627776) :
    FnC Try.prog 15 #[.agg (dcs d a b c e).toArray] O H (fun v H' => ∃ n r, v = .tuple #[.int .i64 n, .int .i64 r] ∧ (n, r) = lateD d ∧ Ext H H') := by
  refine fn_enter (A := [.agg (dcs d a b c e).toArray]) Try.func15 rfl rfl ?_
  refine xc_seq ?_
  refine xc_region ?_
  refine xl_heavy rfl rfl rfl (hv_box rfl rfl) ?_
  rintro v0_0 H0_0 ⟨b0_0, rfl, hN0_0⟩
  have hr := hN0_0.blk
  have hX := hN0_0.ext
  refine xl_pure rfl rfl rfl (pv_assign (v := .int _ _) rfl rfl) ?_
  refine xl_pure rfl rfl rfl (pv_assign (v := .int _ _) rfl rfl) ?_
  refine xl_nil ?_
  refine xthen_normal ?_
  refine xc_seq ?_
  refine xc_seq ?_
  refine xc_region ?_
  refine xl_light rfl rfl rfl (lv_load (v := .agg _) rfl rfl (by first | exact ld_blk_a hr rfl rfl | exact ld_blk hr rfl)) ?_
  refine xl_heavy rfl rfl rfl (hv_call (g := 21) rfl rfl (c21 d a b c e (hs.ext hX) (hs'.ext hX) hl hl') rfl) ?_
  rintro v1_1 H1_1 ⟨e1_1, rfl, hg1_1, hE1_1⟩
  have hX := hX.trans hE1_1
  have hr := hr.ext hE1_1
  try have hz := hz.ext hE1_1
  rcases hg1_1 with ⟨hg1_1, rfl⟩ | ⟨hg1_1, rfl⟩
  · skip
    refine xl_ndec rfl rfl rfl (pv_neq rfl rfl rfl) (fun h1_2 => ?_) (fun h1_2 => ?_)
    · skip
      refine xl_nil ?_
      refine xthen_normal ?_
      refine xc_cond_f rfl ?_
      refine xc_skip ?_
      refine xthen_normal ?_
      refine xc_seq ?_
      refine xc_seq ?_
      refine xc_region ?_
      refine xl_pure rfl rfl rfl (pv_fieldAddr rfl rfl) ?_
      refine xl_light rfl rfl rfl (lv_load (v := .int _ _) rfl rfl (by first | exact ld_blk_a hr rfl rfl | exact ld_blk hr rfl)) ?_
      refine xl_nil ?_
      refine xthen_normal ?_
      refine xc_block ?_
      refine xc_seq ?_
      refine xc_region ?_
      refine xl_dec rfl rfl rfl (pv_eql rfl rfl rfl) (fun h4_0 => ?_) (fun h4_0 => ?_)
      · skip
        refine xl_pure rfl rfl rfl (pv_assign (v := .bool _) rfl rfl) ?_
        refine xl_nil ?_
        refine xthen_normal ?_
        refine xc_cond_t rfl ?_
        refine xc_seq ?_
        refine xc_region ?_
        refine xl_pure rfl rfl rfl (pv_assign (v := .int _ _) rfl rfl) ?_
        refine xl_pure rfl rfl rfl (pv_assign (v := .int _ _) rfl rfl) ?_
        refine xl_nil ?_
        refine xthen_normal ?_
        refine xc_ret ?_
        refine xblock_ret ?_
        refine xthen_ret ?_
        refine fin_ret (res2 (v := .int _ _) (x := .int _ _) rfl rfl rfl) ?_
        exact ⟨7, 0, rfl, (late_1 hg1_1 h4_0).symm, hX⟩
      · skip
        refine xl_pure rfl rfl rfl (pv_assign (v := .bool _) rfl rfl) ?_
        refine xl_nil ?_
        refine xthen_normal ?_
        refine xc_cond_f rfl ?_
        refine xc_seq ?_
        refine xc_region ?_
        refine xl_dec rfl rfl rfl (pv_eql rfl rfl rfl) (fun h6_0 => ?_) (fun h6_0 => ?_)
        · skip
          refine xl_pure rfl rfl rfl (pv_assign (v := .bool _) rfl rfl) ?_
          refine xl_nil ?_
          refine xthen_normal ?_
          refine xc_cond_t rfl ?_
          refine xc_seq ?_
          refine xc_region ?_
          refine xl_pure rfl rfl rfl (pv_assign (v := .int _ _) rfl rfl) ?_
          refine xl_pure rfl rfl rfl (pv_assign (v := .int _ _) rfl rfl) ?_
          refine xl_nil ?_
          refine xthen_normal ?_
          refine xc_ret ?_
          refine xblock_ret ?_
          refine xthen_ret ?_
          refine fin_ret (res2 (v := .int _ _) (x := .int _ _) rfl rfl rfl) ?_
          exact ⟨4, 0, rfl, (late_2 hg1_1 h6_0).symm, hX⟩
        · skip
          refine xl_pure rfl rfl rfl (pv_assign (v := .bool _) rfl rfl) ?_
          refine xl_nil ?_
          refine xthen_normal ?_
          refine xc_cond_f rfl ?_
          refine xc_skip ?_
          refine xblock_normal ?_
          refine xthen_normal ?_
          refine xc_seq ?_
          refine xc_region ?_
          refine xl_pure rfl rfl rfl (pv_assign (v := .int _ _) rfl rfl) ?_
          refine xl_pure rfl rfl rfl (pv_assign (v := .int _ _) rfl rfl) ?_
          refine xl_nil ?_
          refine xthen_normal ?_
          refine xc_ret ?_
          refine fin_ret (res2 (v := .int _ _) (x := .int _ _) rfl rfl rfl) ?_
          exact ⟨0, 9, rfl, (late_no hg1_1 h4_0 h6_0).symm, hX⟩
    · exact absurd (by decide) h1_2
  · skip
    refine xl_ndec rfl rfl rfl (pv_neq rfl rfl rfl) (fun h1_2 => ?_) (fun h1_2 => ?_)
    · exact absurd h1_2 (by decide)
    · skip
      refine xl_nil ?_
      refine xthen_normal ?_
      refine xc_cond_t rfl ?_
      refine xc_seq ?_
      refine xc_region ?_
      refine xl_pure rfl rfl rfl (pv_assign (v := .int _ _) rfl rfl) ?_
      refine xl_pure rfl rfl rfl (pv_assign (v := .int _ _) rfl rfl) ?_
      refine xl_nil ?_
      refine xthen_normal ?_
      refine xc_ret ?_
      refine xthen_ret ?_
      refine fin_ret (res2 (v := .int _ _) (x := .int _ _) rfl rfl rfl) ?_
      exact ⟨0, 1, rfl, (late_bad hg1_1).symm, hX⟩
end Go.XG
