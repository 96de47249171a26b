/-
  Walks of the seat's functions over the logic XG: each function, what it computes. Printed by a program out of wip/walks.py.
-/
import Derived.Test.YtmmogpcmpbkajaaI
import Derived.Test.YtmmogpcmpbkajaaP
import Derived.Test.YtmmogpcmpbkajaaL
import Derived.Test.YtmmogpcmpbkajaaWa
import Derived.Test.YtmmogpcmpbkajaaWb
import Derived.Test.YtmmogpcmpbkajaaWc
import Derived.Test.YtmmogpcmpbkajaaWd
import Derived.Test.YtmmogpcmpbkajaaWe
namespace Go.XG
open Go.Proofs
set_option maxRecDepth 4000
set_option maxHeartbeats 4000000
theorem c44 {O : Outer} {H : Heap} (j : J) (a : Option Addr) (c : Nat) (now : Int) (g : Nat) (cap : List Value) (q : Bool × J) (hq : q.2.needs = j.needs) [Has Try.prog g] (hs : Stks H a j.needs) (hl : j.needs.length < 1099511627776) (hf : ∀ (b : Nat) (H1 : Heap), Ext H H1 → H.size ≤ b → Blk H1 b (jcs j a c) 26 → Good j → 0 ≤ now ∧ now ≤ 1099511627776 → FnC Try.prog g (Value.pointer (some ⟨b, 0, none⟩) :: cap).toArray O H1 (fun v H' => v = .bool q.1 ∧ Upd H1 H' b (jcs q.2 a c) 26)) :
    FnC Try.prog 44 #[.agg (jcs j a c).toArray, .int .i64 now, .func (.func g) #[] cap.toArray] O H (fun v H' => ∃ e j' a' c', v = .tuple #[jv j' a' c', .int .i64 e] ∧ (e, j') = chg j now q ∧ (j'.needs.length = 0 ∨ j'.needs = j.needs ∧ a' = a) ∧ Ext H H') := by
  refine fn_enter (A := [.agg (jcs j a c).toArray, .int .i64 now, .func (.func g) #[] cap.toArray]) Try.func44 rfl rfl ?_
  refine xc_seq ?_
  refine xc_region ?_
  refine xl_heavy rfl rfl rfl (hv_box rfl rfl) ?_
  rintro v0_0 H0_0 ⟨b0_0, rfl, hN0_0⟩
  have hr := hN0_0.blk
  have hX := hN0_0.ext
  have hge := hN0_0.ge
  refine xl_heavy rfl rfl rfl (hv_alloc rfl rfl) ?_
  rintro v0_1 H0_1 ⟨b0_1, rfl, hN0_1⟩
  have hne := hr.fresh hN0_1.ge
  have hr := hr.ext hN0_1.ext
  have hgz := Nat.le_trans hX.size hN0_1.ge
  have hX := hX.trans hN0_1.ext
  have hz := hN0_1.blk
  refine xl_pure rfl rfl rfl (pv_assign (v := .int _ _) rfl rfl) ?_
  refine xl_nil ?_
  refine xthen_normal ?_
  refine xc_seq ?_
  refine xc_seq ?_
  refine xc_region ?_
  refine xl_light rfl rfl rfl (lv_load (v := .agg _) rfl rfl (by first | exact ld_blk_a hr rfl rfl | exact hz)) ?_
  refine xl_heavy rfl rfl rfl (hv_call (g := 10) rfl rfl (c10 j a c (hs.ext hX) hl) rfl) ?_
  rintro v1_1 H1_1 ⟨e1_1, rfl, hg1_1, hE1_1⟩
  have hX := hX.trans hE1_1
  have hr := hr.ext hE1_1
  have hz := hz.ext hE1_1
  rcases hg1_1 with ⟨hg1_1, rfl⟩ | ⟨hg1_1, rfl⟩
  · skip
    refine xl_ndec rfl rfl rfl (pv_neq rfl rfl rfl) (fun h1_2 => ?_) (fun h1_2 => ?_)
    · skip
      refine xl_pure rfl rfl rfl (pv_move (v := .bool _) rfl rfl) ?_
      refine xl_pure rfl rfl rfl (pv_move (v := .int _ _) rfl rfl) ?_
      refine xl_heavy rfl rfl rfl (hv_call (g := 28) rfl rfl (c28 _ _ _) rfl) ?_
      rintro v1_5 H1_5 ⟨r1_5, rfl, hb1_5, rfl⟩
      cases r1_5
      · skip
        replace hb1_5 := mt hb1_5.2 (by decide)
        refine xl_pure rfl rfl rfl (pv_not rfl rfl) ?_
        refine xl_pure rfl rfl rfl (pv_pick_f (v := .bool _) rfl rfl rfl) ?_
        refine xl_nil ?_
        refine xthen_normal ?_
        refine xc_cond_t rfl ?_
        refine xc_seq ?_
        refine xc_region ?_
        refine xl_pure rfl rfl rfl (pv_build_s (cs := [.int _ _, .int _ _, .int _ _, .int _ _, .int _ _, .int _ _, .int _ _, .int _ _, .int _ _, .int _ _, .int _ _, .slice _ _ _, .int _ _, .int _ _, .int _ _, .int _ _]) rfl rfl rfl) ?_
        refine xl_store rfl rfl (hv_storeA (vs := [.int _ _, .int _ _, .int _ _, .int _ _, .int _ _, .int _ _, .int _ _, .int _ _, .int _ _, .int _ _, .int _ _, .slice _ _ _, .int _ _, .int _ _, .int _ _, .int _ _]) rfl rfl rfl (by first | exact ld_blk_a hr rfl rfl | exact hz) rfl (by rfl) rfl) ?_
        rintro v2_1 H2_1 ⟨hU2_1, hZ2_1⟩
        have hX := hX.ofBut hU2_1.but hgz
        have hz := hU2_1.blk
        refine xl_pure rfl rfl rfl (pv_assign (v := .int _ _) rfl rfl) ?_
        refine xl_nil ?_
        refine xthen_normal ?_
        refine xc_ret ?_
        refine xthen_ret ?_
        refine fin_ret (resv2 rfl (rv_c (ty := 26) rfl (ld_blk_a hz rfl rfl)) (rv_t (v := .int _ _) rfl)) ?_
        first
          | exact ⟨1, J0, none, 0, rfl, (chg_bad (.inl hg1_1)).symm, .inl rfl, hX⟩
          | exact ⟨1, J0, none, 0, rfl, (chg_bad (.inr hb1_5)).symm, .inl rfl, hX⟩
      · skip
        replace hb1_5 := hb1_5.1 rfl
        refine xl_pure rfl rfl rfl (pv_not rfl rfl) ?_
        refine xl_pure rfl rfl rfl (pv_pick_f (v := .bool _) rfl rfl rfl) ?_
        refine xl_nil ?_
        refine xthen_normal ?_
        refine xc_cond_f rfl ?_
        refine xc_skip ?_
        refine xthen_normal ?_
        refine xc_seq ?_
        refine xc_seq ?_
        refine xc_region ?_
        refine xl_pure rfl rfl rfl (pv_move rfl rfl) ?_
        refine xl_heavy rfl rfl rfl (hv_call (g := g) rfl rfl (hf _ _ hX hge hr hg1_1 hb1_5) rfl) ?_
        rintro v3_1 H3_1 ⟨rfl, hU3_1⟩
        have hX := hX.ofBut hU3_1.but hge
        have hz := hz.but hU3_1.but hne.symm
        have hr := hU3_1.blk
        obtain ⟨q1, q2⟩ := q
        simp only at hq hr
        cases q1
        · skip
          refine xl_pure rfl rfl rfl (pv_not rfl rfl) ?_
          refine xl_nil ?_
          refine xthen_normal ?_
          refine xc_cond_t rfl ?_
          refine xc_seq ?_
          refine xc_region ?_
          refine xl_pure rfl rfl rfl (pv_build_s (cs := [.int _ _, .int _ _, .int _ _, .int _ _, .int _ _, .int _ _, .int _ _, .int _ _, .int _ _, .int _ _, .int _ _, .slice _ _ _, .int _ _, .int _ _, .int _ _, .int _ _]) rfl rfl rfl) ?_
          refine xl_store rfl rfl (hv_storeA (vs := [.int _ _, .int _ _, .int _ _, .int _ _, .int _ _, .int _ _, .int _ _, .int _ _, .int _ _, .int _ _, .int _ _, .slice _ _ _, .int _ _, .int _ _, .int _ _, .int _ _]) rfl rfl rfl (by first | exact ld_blk_a hr rfl rfl | exact hz) rfl (by rfl) rfl) ?_
          rintro v4_1 H4_1 ⟨hU4_1, hZ4_1⟩
          have hX := hX.ofBut hU4_1.but hgz
          have hz := hU4_1.blk
          refine xl_pure rfl rfl rfl (pv_assign (v := .int _ _) rfl rfl) ?_
          refine xl_nil ?_
          refine xthen_normal ?_
          refine xc_ret ?_
          refine xthen_ret ?_
          refine fin_ret (resv2 rfl (rv_c (ty := 26) rfl (ld_blk_a hz rfl rfl)) (rv_t (v := .int _ _) rfl)) ?_
          exact ⟨9, J0, none, 0, rfl, (chg_no (q := (false, q2)) hg1_1 hb1_5 rfl).symm, .inl rfl, hX⟩
        · skip
          refine xl_pure rfl rfl rfl (pv_not rfl rfl) ?_
          refine xl_nil ?_
          refine xthen_normal ?_
          refine xc_cond_f rfl ?_
          refine xc_skip ?_
          refine xthen_normal ?_
          refine xc_seq ?_
          refine xc_region ?_
          refine xl_light rfl rfl rfl (lv_load (v := .agg _) rfl rfl (by first | exact ld_blk_a hr rfl rfl | exact hz)) ?_
          refine xl_store rfl rfl (hv_storeA (vs := [.int _ _, .int _ _, .int _ _, .int _ _, .int _ _, .int _ _, .int _ _, .int _ _, .int _ _, .int _ _, .int _ _, .slice _ _ _, .int _ _, .int _ _, .int _ _, .int _ _]) rfl rfl rfl (by first | exact ld_blk_a hr rfl rfl | exact hz) rfl (by rfl) rfl) ?_
          rintro v5_1 H5_1 ⟨hU5_1, hZ5_1⟩
          have hX := hX.ofBut hU5_1.but hgz
          have hz := hU5_1.blk
          refine xl_pure rfl rfl rfl (pv_assign (v := .int _ _) rfl rfl) ?_
          refine xl_nil ?_
          refine xthen_normal ?_
          refine xc_ret ?_
          refine fin_ret (resv2 rfl (rv_c (ty := 26) rfl (ld_blk_a hz rfl rfl)) (rv_t (v := .int _ _) rfl)) ?_
          exact ⟨0, q2, a, c, rfl, (chg_ok (q := (true, q2)) hg1_1 hb1_5 rfl).symm, .inr ⟨hq, rfl⟩, hX⟩
    · exact absurd (by decide) h1_2
  · skip
    refine xl_ndec rfl rfl rfl (pv_neq rfl rfl rfl) (fun h1_2 => ?_) (fun h1_2 => ?_)
    · exact absurd h1_2 (by decide)
    · skip
      refine xl_pure rfl rfl rfl (pv_move (v := .bool _) rfl rfl) ?_
      refine xl_skip rfl rfl rfl ?_
      refine xl_skip rfl rfl rfl ?_
      refine xl_skip rfl rfl rfl ?_
      refine xl_pure rfl rfl rfl (pv_pick_t (v := .bool _) rfl rfl rfl) ?_
      refine xl_nil ?_
      refine xthen_normal ?_
      refine xc_cond_t rfl ?_
      refine xc_seq ?_
      refine xc_region ?_
      refine xl_pure rfl rfl rfl (pv_build_s (cs := [.int _ _, .int _ _, .int _ _, .int _ _, .int _ _, .int _ _, .int _ _, .int _ _, .int _ _, .int _ _, .int _ _, .slice _ _ _, .int _ _, .int _ _, .int _ _, .int _ _]) rfl rfl rfl) ?_
      refine xl_store rfl rfl (hv_storeA (vs := [.int _ _, .int _ _, .int _ _, .int _ _, .int _ _, .int _ _, .int _ _, .int _ _, .int _ _, .int _ _, .int _ _, .slice _ _ _, .int _ _, .int _ _, .int _ _, .int _ _]) rfl rfl rfl (by first | exact ld_blk_a hr rfl rfl | exact hz) rfl (by rfl) rfl) ?_
      rintro v2_1 H2_1 ⟨hU2_1, hZ2_1⟩
      have hX := hX.ofBut hU2_1.but hgz
      have hz := hU2_1.blk
      refine xl_pure rfl rfl rfl (pv_assign (v := .int _ _) rfl rfl) ?_
      refine xl_nil ?_
      refine xthen_normal ?_
      refine xc_ret ?_
      refine xthen_ret ?_
      refine fin_ret (resv2 rfl (rv_c (ty := 26) rfl (ld_blk_a hz rfl rfl)) (rv_t (v := .int _ _) rfl)) ?_
      first
        | exact ⟨1, J0, none, 0, rfl, (chg_bad (.inl hg1_1)).symm, .inl rfl, hX⟩
        | exact ⟨1, J0, none, 0, rfl, (chg_bad (.inr hb1_5)).symm, .inl rfl, hX⟩

theorem c21 {O : Outer} {H : Heap} (j : J) (a : Option Addr) (c : Nat) (now : Int) (hs : Stks H a j.needs) (hl : j.needs.length < 1099511627776) :
    FnC Try.prog 21 #[.agg (jcs j a c).toArray, .int .i64 now] O H (fun v H' => ∃ e j' a' c', v = .tuple #[jv j' a' c', .int .i64 e] ∧ (e, j') = chg j now (actB j 1 now) ∧ (j'.needs.length = 0 ∨ j'.needs = j.needs ∧ a' = a) ∧ Ext H H') := by
  refine fn_enter (A := [.agg (jcs j a c).toArray, .int .i64 now]) Try.func21 rfl rfl ?_
  refine xc_seq ?_
  refine xc_region ?_
  refine xl_heavy rfl rfl rfl (hv_box rfl rfl) ?_
  rintro v0_0 H0_0 ⟨b0_0, rfl, hN0_0⟩
  have hr := hN0_0.blk
  have hX := hN0_0.ext
  refine xl_heavy rfl rfl rfl (hv_box rfl rfl) ?_
  rintro v0_1 H0_1 ⟨b0_1, rfl, hN0_1⟩
  have hr := hr.ext hN0_1.ext
  have hX := hX.trans hN0_1.ext
  have hn := hN0_1.blk
  refine xl_heavy rfl rfl rfl (hv_alloc rfl rfl) ?_
  rintro v0_2 H0_2 ⟨b0_2, rfl, hN0_2⟩
  have hr := hr.ext hN0_2.ext
  have hn := hn.ext hN0_2.ext
  have hgz := Nat.le_trans hX.size hN0_2.ge
  have hX := hX.trans hN0_2.ext
  have hz := hN0_2.blk
  refine xl_pure rfl rfl rfl (pv_assign (v := .int _ _) rfl rfl) ?_
  refine xl_nil ?_
  refine xthen_normal ?_
  refine xc_seq ?_
  refine xc_region ?_
  refine xl_light rfl rfl rfl (lv_load (v := .agg _) rfl rfl (by first | exact ld_blk_a hr rfl rfl | exact ld_blk hn rfl | exact hz)) ?_
  refine xl_light rfl rfl rfl (lv_load (v := .int _ _) rfl rfl (by first | exact ld_blk_a hr rfl rfl | exact ld_blk hn rfl | exact hz)) ?_
  refine xl_pure rfl rfl rfl (pv_makeFunc (a := []) (b := [.pointer _]) rfl rfl rfl) ?_
  refine xl_heavy rfl rfl rfl (hv_call (g := 44) rfl rfl (c44 j a c now 45 [.pointer (some ⟨b0_1, 0, none⟩)] (actB j 1 now) (act_needs _ _ _) (hs.ext hX) hl (fun b H1 hE hge hr' hg hnow => c45 j a c now hg hnow hr' (hn.ext hE) (hn.fresh hge))) rfl) ?_
  rintro v1_3 H1_3 ⟨e1_3, j1_3, a1_3, c1_3, rfl, hd1_3, hk1_3, hE1_3⟩
  have hX := hX.trans hE1_3
  have hz := hz.ext hE1_3
  refine xl_pure rfl rfl rfl (pv_extract (v := .agg _) rfl rfl rfl) ?_
  refine xl_pure rfl rfl rfl (pv_extract (v := .int _ _) rfl rfl rfl) ?_
  refine xl_store rfl rfl (hv_storeA (vs := [.int _ _, .int _ _, .int _ _, .int _ _, .int _ _, .int _ _, .int _ _, .int _ _, .int _ _, .int _ _, .int _ _, .slice _ _ _, .int _ _, .int _ _, .int _ _, .int _ _]) rfl rfl rfl (by first | exact ld_blk_a hr rfl rfl | exact ld_blk hn rfl | exact hz) rfl (by rfl) rfl) ?_
  rintro v1_6 H1_6 ⟨hU1_6, hZ1_6⟩
  have hX := hX.ofBut hU1_6.but hgz
  have hz := hU1_6.blk
  refine xl_pure rfl rfl rfl (pv_assign (v := .int _ _) rfl rfl) ?_
  refine xl_nil ?_
  refine xthen_normal ?_
  refine xc_ret ?_
  refine fin_ret (resv2 rfl (rv_c (ty := 26) rfl (ld_blk_a hz rfl rfl)) (rv_t (v := .int _ _) rfl)) ?_
  exact ⟨e1_3, j1_3, a1_3, c1_3, rfl, hd1_3, hk1_3, hX⟩

theorem c22 {O : Outer} {H : Heap} (j : J) (a : Option Addr) (c : Nat) (now : Int) (hs : Stks H a j.needs) (hl : j.needs.length < 1099511627776) :
    FnC Try.prog 22 #[.agg (jcs j a c).toArray, .int .i64 now] O H (fun v H' => ∃ e j' a' c', v = .tuple #[jv j' a' c', .int .i64 e] ∧ (e, j') = chg j now (actB j 2 now) ∧ (j'.needs.length = 0 ∨ j'.needs = j.needs ∧ a' = a) ∧ Ext H H') := by
  refine fn_enter (A := [.agg (jcs j a c).toArray, .int .i64 now]) Try.func22 rfl rfl ?_
  refine xc_seq ?_
  refine xc_region ?_
  refine xl_heavy rfl rfl rfl (hv_box rfl rfl) ?_
  rintro v0_0 H0_0 ⟨b0_0, rfl, hN0_0⟩
  have hr := hN0_0.blk
  have hX := hN0_0.ext
  refine xl_heavy rfl rfl rfl (hv_box rfl rfl) ?_
  rintro v0_1 H0_1 ⟨b0_1, rfl, hN0_1⟩
  have hr := hr.ext hN0_1.ext
  have hX := hX.trans hN0_1.ext
  have hn := hN0_1.blk
  refine xl_heavy rfl rfl rfl (hv_alloc rfl rfl) ?_
  rintro v0_2 H0_2 ⟨b0_2, rfl, hN0_2⟩
  have hr := hr.ext hN0_2.ext
  have hn := hn.ext hN0_2.ext
  have hgz := Nat.le_trans hX.size hN0_2.ge
  have hX := hX.trans hN0_2.ext
  have hz := hN0_2.blk
  refine xl_pure rfl rfl rfl (pv_assign (v := .int _ _) rfl rfl) ?_
  refine xl_nil ?_
  refine xthen_normal ?_
  refine xc_seq ?_
  refine xc_region ?_
  refine xl_light rfl rfl rfl (lv_load (v := .agg _) rfl rfl (by first | exact ld_blk_a hr rfl rfl | exact ld_blk hn rfl | exact hz)) ?_
  refine xl_light rfl rfl rfl (lv_load (v := .int _ _) rfl rfl (by first | exact ld_blk_a hr rfl rfl | exact ld_blk hn rfl | exact hz)) ?_
  refine xl_pure rfl rfl rfl (pv_makeFunc (a := []) (b := [.pointer _]) rfl rfl rfl) ?_
  refine xl_heavy rfl rfl rfl (hv_call (g := 44) rfl rfl (c44 j a c now 46 [.pointer (some ⟨b0_1, 0, none⟩)] (actB j 2 now) (act_needs _ _ _) (hs.ext hX) hl (fun b H1 hE hge hr' hg hnow => c46 j a c now hg hnow hr' (hn.ext hE) (hn.fresh hge))) rfl) ?_
  rintro v1_3 H1_3 ⟨e1_3, j1_3, a1_3, c1_3, rfl, hd1_3, hk1_3, hE1_3⟩
  have hX := hX.trans hE1_3
  have hz := hz.ext hE1_3
  refine xl_pure rfl rfl rfl (pv_extract (v := .agg _) rfl rfl rfl) ?_
  refine xl_pure rfl rfl rfl (pv_extract (v := .int _ _) rfl rfl rfl) ?_
  refine xl_store rfl rfl (hv_storeA (vs := [.int _ _, .int _ _, .int _ _, .int _ _, .int _ _, .int _ _, .int _ _, .int _ _, .int _ _, .int _ _, .int _ _, .slice _ _ _, .int _ _, .int _ _, .int _ _, .int _ _]) rfl rfl rfl (by first | exact ld_blk_a hr rfl rfl | exact ld_blk hn rfl | exact hz) rfl (by rfl) rfl) ?_
  rintro v1_6 H1_6 ⟨hU1_6, hZ1_6⟩
  have hX := hX.ofBut hU1_6.but hgz
  have hz := hU1_6.blk
  refine xl_pure rfl rfl rfl (pv_assign (v := .int _ _) rfl rfl) ?_
  refine xl_nil ?_
  refine xthen_normal ?_
  refine xc_ret ?_
  refine fin_ret (resv2 rfl (rv_c (ty := 26) rfl (ld_blk_a hz rfl rfl)) (rv_t (v := .int _ _) rfl)) ?_
  exact ⟨e1_3, j1_3, a1_3, c1_3, rfl, hd1_3, hk1_3, hX⟩

theorem c23 {O : Outer} {H : Heap} (j : J) (a : Option Addr) (c : Nat) (hs : Stks H a j.needs) (hl : j.needs.length < 1099511627776) :
    FnC Try.prog 23 #[.agg (jcs j a c).toArray] O H (fun v H' => ∃ e j' a' c', v = .tuple #[jv j' a' c', .int .i64 e] ∧ (e, j') = chg j 0 (actB j 3 0) ∧ (j'.needs.length = 0 ∨ j'.needs = j.needs ∧ a' = a) ∧ Ext H H') := by
  refine fn_enter (A := [.agg (jcs j a c).toArray]) Try.func23 rfl rfl ?_
  refine xc_seq ?_
  refine xc_region ?_
  refine xl_heavy rfl rfl rfl (hv_box rfl rfl) ?_
  rintro v0_0 H0_0 ⟨b0_0, rfl, hN0_0⟩
  have hr := hN0_0.blk
  have hX := hN0_0.ext
  refine xl_heavy rfl rfl rfl (hv_alloc rfl rfl) ?_
  rintro v0_1 H0_1 ⟨b0_1, rfl, hN0_1⟩
  have hr := hr.ext hN0_1.ext
  have hgz := Nat.le_trans hX.size hN0_1.ge
  have hX := hX.trans hN0_1.ext
  have hz := hN0_1.blk
  refine xl_pure rfl rfl rfl (pv_assign (v := .int _ _) rfl rfl) ?_
  refine xl_nil ?_
  refine xthen_normal ?_
  refine xc_seq ?_
  refine xc_region ?_
  refine xl_light rfl rfl rfl (lv_load (v := .agg _) rfl rfl (by first | exact ld_blk_a hr rfl rfl | exact hz)) ?_
  refine xl_heavy rfl rfl rfl (hv_call (g := 44) rfl rfl (c44 j a c 0 47 [] (actB j 3 0) (act_needs _ _ _) (hs.ext hX) hl (fun b H1 hE hge hr' hg hnow => c47 j a c 0 hg hnow hr')) rfl) ?_
  rintro v1_1 H1_1 ⟨e1_1, j1_1, a1_1, c1_1, rfl, hd1_1, hk1_1, hE1_1⟩
  have hX := hX.trans hE1_1
  have hz := hz.ext hE1_1
  refine xl_pure rfl rfl rfl (pv_extract (v := .agg _) rfl rfl rfl) ?_
  refine xl_pure rfl rfl rfl (pv_extract (v := .int _ _) rfl rfl rfl) ?_
  refine xl_store rfl rfl (hv_storeA (vs := [.int _ _, .int _ _, .int _ _, .int _ _, .int _ _, .int _ _, .int _ _, .int _ _, .int _ _, .int _ _, .int _ _, .slice _ _ _, .int _ _, .int _ _, .int _ _, .int _ _]) rfl rfl rfl (by first | exact ld_blk_a hr rfl rfl | exact hz) rfl (by rfl) rfl) ?_
  rintro v1_4 H1_4 ⟨hU1_4, hZ1_4⟩
  have hX := hX.ofBut hU1_4.but hgz
  have hz := hU1_4.blk
  refine xl_pure rfl rfl rfl (pv_assign (v := .int _ _) rfl rfl) ?_
  refine xl_nil ?_
  refine xthen_normal ?_
  refine xc_ret ?_
  refine fin_ret (resv2 rfl (rv_c (ty := 26) rfl (ld_blk_a hz rfl rfl)) (rv_t (v := .int _ _) rfl)) ?_
  exact ⟨e1_1, j1_1, a1_1, c1_1, rfl, hd1_1, hk1_1, hX⟩

theorem c24 {O : Outer} {H : Heap} (j : J) (a : Option Addr) (c : Nat) (now : Int) (hs : Stks H a j.needs) (hl : j.needs.length < 1099511627776) :
    FnC Try.prog 24 #[.agg (jcs j a c).toArray, .int .i64 now] O H (fun v H' => ∃ e j' a' c', v = .tuple #[jv j' a' c', .int .i64 e] ∧ (e, j') = chg j now (actB j 4 now) ∧ (j'.needs.length = 0 ∨ j'.needs = j.needs ∧ a' = a) ∧ Ext H H') := by
  refine fn_enter (A := [.agg (jcs j a c).toArray, .int .i64 now]) Try.func24 rfl rfl ?_
  refine xc_seq ?_
  refine xc_region ?_
  refine xl_heavy rfl rfl rfl (hv_box rfl rfl) ?_
  rintro v0_0 H0_0 ⟨b0_0, rfl, hN0_0⟩
  have hr := hN0_0.blk
  have hX := hN0_0.ext
  refine xl_heavy rfl rfl rfl (hv_box rfl rfl) ?_
  rintro v0_1 H0_1 ⟨b0_1, rfl, hN0_1⟩
  have hr := hr.ext hN0_1.ext
  have hX := hX.trans hN0_1.ext
  have hn := hN0_1.blk
  refine xl_heavy rfl rfl rfl (hv_alloc rfl rfl) ?_
  rintro v0_2 H0_2 ⟨b0_2, rfl, hN0_2⟩
  have hr := hr.ext hN0_2.ext
  have hn := hn.ext hN0_2.ext
  have hgz := Nat.le_trans hX.size hN0_2.ge
  have hX := hX.trans hN0_2.ext
  have hz := hN0_2.blk
  refine xl_pure rfl rfl rfl (pv_assign (v := .int _ _) rfl rfl) ?_
  refine xl_nil ?_
  refine xthen_normal ?_
  refine xc_seq ?_
  refine xc_region ?_
  refine xl_light rfl rfl rfl (lv_load (v := .agg _) rfl rfl (by first | exact ld_blk_a hr rfl rfl | exact ld_blk hn rfl | exact hz)) ?_
  refine xl_light rfl rfl rfl (lv_load (v := .int _ _) rfl rfl (by first | exact ld_blk_a hr rfl rfl | exact ld_blk hn rfl | exact hz)) ?_
  refine xl_pure rfl rfl rfl (pv_makeFunc (a := []) (b := [.pointer _]) rfl rfl rfl) ?_
  refine xl_heavy rfl rfl rfl (hv_call (g := 44) rfl rfl (c44 j a c now 48 [.pointer (some ⟨b0_1, 0, none⟩)] (actB j 4 now) (act_needs _ _ _) (hs.ext hX) hl (fun b H1 hE hge hr' hg hnow => c48 j a c now hg hnow hr' (hn.ext hE) (hn.fresh hge))) rfl) ?_
  rintro v1_3 H1_3 ⟨e1_3, j1_3, a1_3, c1_3, rfl, hd1_3, hk1_3, hE1_3⟩
  have hX := hX.trans hE1_3
  have hz := hz.ext hE1_3
  refine xl_pure rfl rfl rfl (pv_extract (v := .agg _) rfl rfl rfl) ?_
  refine xl_pure rfl rfl rfl (pv_extract (v := .int _ _) rfl rfl rfl) ?_
  refine xl_store rfl rfl (hv_storeA (vs := [.int _ _, .int _ _, .int _ _, .int _ _, .int _ _, .int _ _, .int _ _, .int _ _, .int _ _, .int _ _, .int _ _, .slice _ _ _, .int _ _, .int _ _, .int _ _, .int _ _]) rfl rfl rfl (by first | exact ld_blk_a hr rfl rfl | exact ld_blk hn rfl | exact hz) rfl (by rfl) rfl) ?_
  rintro v1_6 H1_6 ⟨hU1_6, hZ1_6⟩
  have hX := hX.ofBut hU1_6.but hgz
  have hz := hU1_6.blk
  refine xl_pure rfl rfl rfl (pv_assign (v := .int _ _) rfl rfl) ?_
  refine xl_nil ?_
  refine xthen_normal ?_
  refine xc_ret ?_
  refine fin_ret (resv2 rfl (rv_c (ty := 26) rfl (ld_blk_a hz rfl rfl)) (rv_t (v := .int _ _) rfl)) ?_
  exact ⟨e1_3, j1_3, a1_3, c1_3, rfl, hd1_3, hk1_3, hX⟩

theorem c25 {O : Outer} {H : Heap} (j : J) (a : Option Addr) (c : Nat) (hs : Stks H a j.needs) (hl : j.needs.length < 1099511627776) :
    FnC Try.prog 25 #[.agg (jcs j a c).toArray] O H (fun v H' => ∃ e j' a' c', v = .tuple #[jv j' a' c', .int .i64 e] ∧ (e, j') = chg j 0 (actB j 5 0) ∧ (j'.needs.length = 0 ∨ j'.needs = j.needs ∧ a' = a) ∧ Ext H H') := by
  refine fn_enter (A := [.agg (jcs j a c).toArray]) Try.func25 rfl rfl ?_
  refine xc_seq ?_
  refine xc_region ?_
  refine xl_heavy rfl rfl rfl (hv_box rfl rfl) ?_
  rintro v0_0 H0_0 ⟨b0_0, rfl, hN0_0⟩
  have hr := hN0_0.blk
  have hX := hN0_0.ext
  refine xl_heavy rfl rfl rfl (hv_alloc rfl rfl) ?_
  rintro v0_1 H0_1 ⟨b0_1, rfl, hN0_1⟩
  have hr := hr.ext hN0_1.ext
  have hgz := Nat.le_trans hX.size hN0_1.ge
  have hX := hX.trans hN0_1.ext
  have hz := hN0_1.blk
  refine xl_pure rfl rfl rfl (pv_assign (v := .int _ _) rfl rfl) ?_
  refine xl_nil ?_
  refine xthen_normal ?_
  refine xc_seq ?_
  refine xc_region ?_
  refine xl_light rfl rfl rfl (lv_load (v := .agg _) rfl rfl (by first | exact ld_blk_a hr rfl rfl | exact hz)) ?_
  refine xl_heavy rfl rfl rfl (hv_call (g := 44) rfl rfl (c44 j a c 0 49 [] (actB j 5 0) (act_needs _ _ _) (hs.ext hX) hl (fun b H1 hE hge hr' hg hnow => c49 j a c 0 hg hnow hr')) rfl) ?_
  rintro v1_1 H1_1 ⟨e1_1, j1_1, a1_1, c1_1, rfl, hd1_1, hk1_1, hE1_1⟩
  have hX := hX.trans hE1_1
  have hz := hz.ext hE1_1
  refine xl_pure rfl rfl rfl (pv_extract (v := .agg _) rfl rfl rfl) ?_
  refine xl_pure rfl rfl rfl (pv_extract (v := .int _ _) rfl rfl rfl) ?_
  refine xl_store rfl rfl (hv_storeA (vs := [.int _ _, .int _ _, .int _ _, .int _ _, .int _ _, .int _ _, .int _ _, .int _ _, .int _ _, .int _ _, .int _ _, .slice _ _ _, .int _ _, .int _ _, .int _ _, .int _ _]) rfl rfl rfl (by first | exact ld_blk_a hr rfl rfl | exact hz) rfl (by rfl) rfl) ?_
  rintro v1_4 H1_4 ⟨hU1_4, hZ1_4⟩
  have hX := hX.ofBut hU1_4.but hgz
  have hz := hU1_4.blk
  refine xl_pure rfl rfl rfl (pv_assign (v := .int _ _) rfl rfl) ?_
  refine xl_nil ?_
  refine xthen_normal ?_
  refine xc_ret ?_
  refine fin_ret (resv2 rfl (rv_c (ty := 26) rfl (ld_blk_a hz rfl rfl)) (rv_t (v := .int _ _) rfl)) ?_
  exact ⟨e1_1, j1_1, a1_1, c1_1, rfl, hd1_1, hk1_1, hX⟩

theorem c26 {O : Outer} {H : Heap} (j : J) (a : Option Addr) (c : Nat) (hs : Stks H a j.needs) (hl : j.needs.length < 1099511627776) :
    FnC Try.prog 26 #[.agg (jcs j a c).toArray] O H (fun v H' => ∃ e j' a' c', v = .tuple #[jv j' a' c', .int .i64 e] ∧ (e, j') = chg j 0 (actB j 6 0) ∧ (j'.needs.length = 0 ∨ j'.needs = j.needs ∧ a' = a) ∧ Ext H H') := by
  refine fn_enter (A := [.agg (jcs j a c).toArray]) Try.func26 rfl rfl ?_
  refine xc_seq ?_
  refine xc_region ?_
  refine xl_heavy rfl rfl rfl (hv_box rfl rfl) ?_
  rintro v0_0 H0_0 ⟨b0_0, rfl, hN0_0⟩
  have hr := hN0_0.blk
  have hX := hN0_0.ext
  refine xl_heavy rfl rfl rfl (hv_alloc rfl rfl) ?_
  rintro v0_1 H0_1 ⟨b0_1, rfl, hN0_1⟩
  have hr := hr.ext hN0_1.ext
  have hgz := Nat.le_trans hX.size hN0_1.ge
  have hX := hX.trans hN0_1.ext
  have hz := hN0_1.blk
  refine xl_pure rfl rfl rfl (pv_assign (v := .int _ _) rfl rfl) ?_
  refine xl_nil ?_
  refine xthen_normal ?_
  refine xc_seq ?_
  refine xc_region ?_
  refine xl_light rfl rfl rfl (lv_load (v := .agg _) rfl rfl (by first | exact ld_blk_a hr rfl rfl | exact hz)) ?_
  refine xl_heavy rfl rfl rfl (hv_call (g := 44) rfl rfl (c44 j a c 0 50 [] (actB j 6 0) (act_needs _ _ _) (hs.ext hX) hl (fun b H1 hE hge hr' hg hnow => c50 j a c 0 hg hnow hr')) rfl) ?_
  rintro v1_1 H1_1 ⟨e1_1, j1_1, a1_1, c1_1, rfl, hd1_1, hk1_1, hE1_1⟩
  have hX := hX.trans hE1_1
  have hz := hz.ext hE1_1
  refine xl_pure rfl rfl rfl (pv_extract (v := .agg _) rfl rfl rfl) ?_
  refine xl_pure rfl rfl rfl (pv_extract (v := .int _ _) rfl rfl rfl) ?_
  refine xl_store rfl rfl (hv_storeA (vs := [.int _ _, .int _ _, .int _ _, .int _ _, .int _ _, .int _ _, .int _ _, .int _ _, .int _ _, .int _ _, .int _ _, .slice _ _ _, .int _ _, .int _ _, .int _ _, .int _ _]) rfl rfl rfl (by first | exact ld_blk_a hr rfl rfl | exact hz) rfl (by rfl) rfl) ?_
  rintro v1_4 H1_4 ⟨hU1_4, hZ1_4⟩
  have hX := hX.ofBut hU1_4.but hgz
  have hz := hU1_4.blk
  refine xl_pure rfl rfl rfl (pv_assign (v := .int _ _) rfl rfl) ?_
  refine xl_nil ?_
  refine xthen_normal ?_
  refine xc_ret ?_
  refine fin_ret (resv2 rfl (rv_c (ty := 26) rfl (ld_blk_a hz rfl rfl)) (rv_t (v := .int _ _) rfl)) ?_
  exact ⟨e1_1, j1_1, a1_1, c1_1, rfl, hd1_1, hk1_1, hX⟩

theorem c8 {O : Outer} {H : Heap} (j : J) (a : Option Addr) (c : Nat) (what now : Int) (hs : Stks H a j.needs) (hl : j.needs.length < 1099511627776) :
    FnC Try.prog 8 #[.agg (jcs j a c).toArray, .int .i64 what, .int .i64 now] O H (fun v H' => ∃ e j' a' c', v = .tuple #[jv j' a' c', .int .i64 e] ∧ (e, j') = doJ j what now ∧ (j'.needs.length = 0 ∨ j'.needs = j.needs ∧ a' = a) ∧ Ext H H') := by
  refine fn_enter (A := [.agg (jcs j a c).toArray, .int .i64 what, .int .i64 now]) Try.func8 rfl rfl ?_
  refine xc_seq ?_
  refine xc_region ?_
  refine xl_heavy rfl rfl rfl (hv_box rfl rfl) ?_
  rintro v0_0 H0_0 ⟨b0_0, rfl, hN0_0⟩
  have hr := hN0_0.blk
  have hX := hN0_0.ext
  have hge := hN0_0.ge
  refine xl_heavy rfl rfl rfl (hv_alloc rfl rfl) ?_
  rintro v0_1 H0_1 ⟨b0_1, rfl, hN0_1⟩
  have hne := hr.fresh hN0_1.ge
  have hr := hr.ext hN0_1.ext
  have hgz := Nat.le_trans hX.size hN0_1.ge
  have hX := hX.trans hN0_1.ext
  have hz := hN0_1.blk
  refine xl_pure rfl rfl rfl (pv_assign (v := .int _ _) rfl rfl) ?_
  refine xl_nil ?_
  refine xthen_normal ?_
  refine xc_seq ?_
  refine xc_seq ?_
  refine xc_region ?_
  refine xl_pure rfl rfl rfl (pv_move (v := .int _ _) rfl rfl) ?_
  refine xl_nil ?_
  refine xthen_normal ?_
  refine xc_block ?_
  refine xc_seq ?_
  refine xc_region ?_
  refine xl_dec rfl rfl rfl (pv_eql rfl rfl rfl) (fun h2_0 => ?_) (fun h2_0 => ?_)
  · skip
    refine xl_pure rfl rfl rfl (pv_assign (v := .bool _) rfl rfl) ?_
    refine xl_nil ?_
    refine xthen_normal ?_
    refine xc_cond_t rfl ?_
    refine xc_seq ?_
    refine xc_region ?_
    refine xl_light rfl rfl rfl (lv_load (v := .agg _) rfl rfl (by first | exact ld_blk_a hr rfl rfl | exact hz)) ?_
    refine xl_pure rfl rfl rfl (pv_move (v := .int _ _) rfl rfl) ?_
    refine xl_heavy rfl rfl rfl (hv_call (g := 21) rfl rfl (c21 j a c now (hs.ext hX) hl) rfl) ?_
    rintro v3_2 H3_2 ⟨e3_2, j3_2, a3_2, c3_2, rfl, hd3_2, hk3_2, hE3_2⟩
    have hX := hX.trans hE3_2
    have hz := hz.ext hE3_2
    refine xl_pure rfl rfl rfl (pv_extract (v := .agg _) rfl rfl rfl) ?_
    refine xl_pure rfl rfl rfl (pv_extract (v := .int _ _) rfl rfl rfl) ?_
    refine xl_store rfl rfl (hv_storeA (vs := [.int _ _, .int _ _, .int _ _, .int _ _, .int _ _, .int _ _, .int _ _, .int _ _, .int _ _, .int _ _, .int _ _, .slice _ _ _, .int _ _, .int _ _, .int _ _, .int _ _]) rfl rfl rfl (by first | exact ld_blk_a hr rfl rfl | exact hz) rfl (by rfl) rfl) ?_
    rintro v3_5 H3_5 ⟨hU3_5, hZ3_5⟩
    have hX := hX.ofBut hU3_5.but hgz
    have hz := hU3_5.blk
    refine xl_pure rfl rfl rfl (pv_assign (v := .int _ _) rfl rfl) ?_
    refine xl_nil ?_
    refine xthen_normal ?_
    refine xc_ret ?_
    refine xblock_ret ?_
    refine xthen_ret ?_
    refine fin_ret (resv2 rfl (rv_c (ty := 26) rfl (ld_blk_a hz rfl rfl)) (rv_t (v := .int _ _) rfl)) ?_
    exact ⟨e3_2, j3_2, a3_2, c3_2, rfl, hd3_2.trans (by subst h2_0; rfl), hk3_2, hX⟩
  · skip
    refine xl_pure rfl rfl rfl (pv_assign (v := .bool _) rfl rfl) ?_
    refine xl_nil ?_
    refine xthen_normal ?_
    refine xc_cond_f rfl ?_
    refine xc_seq ?_
    refine xc_region ?_
    refine xl_dec rfl rfl rfl (pv_eql rfl rfl rfl) (fun h4_0 => ?_) (fun h4_0 => ?_)
    · skip
      refine xl_pure rfl rfl rfl (pv_assign (v := .bool _) rfl rfl) ?_
      refine xl_nil ?_
      refine xthen_normal ?_
      refine xc_cond_t rfl ?_
      refine xc_seq ?_
      refine xc_region ?_
      refine xl_light rfl rfl rfl (lv_load (v := .agg _) rfl rfl (by first | exact ld_blk_a hr rfl rfl | exact hz)) ?_
      refine xl_pure rfl rfl rfl (pv_move (v := .int _ _) rfl rfl) ?_
      refine xl_heavy rfl rfl rfl (hv_call (g := 22) rfl rfl (c22 j a c now (hs.ext hX) hl) rfl) ?_
      rintro v5_2 H5_2 ⟨e5_2, j5_2, a5_2, c5_2, rfl, hd5_2, hk5_2, hE5_2⟩
      have hX := hX.trans hE5_2
      have hz := hz.ext hE5_2
      refine xl_pure rfl rfl rfl (pv_extract (v := .agg _) rfl rfl rfl) ?_
      refine xl_pure rfl rfl rfl (pv_extract (v := .int _ _) rfl rfl rfl) ?_
      refine xl_store rfl rfl (hv_storeA (vs := [.int _ _, .int _ _, .int _ _, .int _ _, .int _ _, .int _ _, .int _ _, .int _ _, .int _ _, .int _ _, .int _ _, .slice _ _ _, .int _ _, .int _ _, .int _ _, .int _ _]) rfl rfl rfl (by first | exact ld_blk_a hr rfl rfl | exact hz) rfl (by rfl) rfl) ?_
      rintro v5_5 H5_5 ⟨hU5_5, hZ5_5⟩
      have hX := hX.ofBut hU5_5.but hgz
      have hz := hU5_5.blk
      refine xl_pure rfl rfl rfl (pv_assign (v := .int _ _) rfl rfl) ?_
      refine xl_nil ?_
      refine xthen_normal ?_
      refine xc_ret ?_
      refine xblock_ret ?_
      refine xthen_ret ?_
      refine fin_ret (resv2 rfl (rv_c (ty := 26) rfl (ld_blk_a hz rfl rfl)) (rv_t (v := .int _ _) rfl)) ?_
      exact ⟨e5_2, j5_2, a5_2, c5_2, rfl, hd5_2.trans (by subst h4_0; rfl), hk5_2, hX⟩
    · skip
      refine xl_pure rfl rfl rfl (pv_assign (v := .bool _) rfl rfl) ?_
      refine xl_nil ?_
      refine xthen_normal ?_
      refine xc_cond_f rfl ?_
      refine xc_seq ?_
      refine xc_region ?_
      refine xl_dec rfl rfl rfl (pv_eql rfl rfl rfl) (fun h6_0 => ?_) (fun h6_0 => ?_)
      · skip
        refine xl_pure rfl rfl rfl (pv_assign (v := .bool _) rfl rfl) ?_
        refine xl_nil ?_
        refine xthen_normal ?_
        refine xc_cond_t rfl ?_
        refine xc_seq ?_
        refine xc_region ?_
        refine xl_light rfl rfl rfl (lv_load (v := .agg _) rfl rfl (by first | exact ld_blk_a hr rfl rfl | exact hz)) ?_
        refine xl_heavy rfl rfl rfl (hv_call (g := 23) rfl rfl (c23 j a c (hs.ext hX) hl) rfl) ?_
        rintro v7_1 H7_1 ⟨e7_1, j7_1, a7_1, c7_1, rfl, hd7_1, hk7_1, hE7_1⟩
        have hX := hX.trans hE7_1
        have hz := hz.ext hE7_1
        refine xl_pure rfl rfl rfl (pv_extract (v := .agg _) rfl rfl rfl) ?_
        refine xl_pure rfl rfl rfl (pv_extract (v := .int _ _) rfl rfl rfl) ?_
        refine xl_store rfl rfl (hv_storeA (vs := [.int _ _, .int _ _, .int _ _, .int _ _, .int _ _, .int _ _, .int _ _, .int _ _, .int _ _, .int _ _, .int _ _, .slice _ _ _, .int _ _, .int _ _, .int _ _, .int _ _]) rfl rfl rfl (by first | exact ld_blk_a hr rfl rfl | exact hz) rfl (by rfl) rfl) ?_
        rintro v7_4 H7_4 ⟨hU7_4, hZ7_4⟩
        have hX := hX.ofBut hU7_4.but hgz
        have hz := hU7_4.blk
        refine xl_pure rfl rfl rfl (pv_assign (v := .int _ _) rfl rfl) ?_
        refine xl_nil ?_
        refine xthen_normal ?_
        refine xc_ret ?_
        refine xblock_ret ?_
        refine xthen_ret ?_
        refine fin_ret (resv2 rfl (rv_c (ty := 26) rfl (ld_blk_a hz rfl rfl)) (rv_t (v := .int _ _) rfl)) ?_
        exact ⟨e7_1, j7_1, a7_1, c7_1, rfl, hd7_1.trans (by subst h6_0; rfl), hk7_1, hX⟩
      · skip
        refine xl_pure rfl rfl rfl (pv_assign (v := .bool _) rfl rfl) ?_
        refine xl_nil ?_
        refine xthen_normal ?_
        refine xc_cond_f rfl ?_
        refine xc_seq ?_
        refine xc_region ?_
        refine xl_dec rfl rfl rfl (pv_eql rfl rfl rfl) (fun h8_0 => ?_) (fun h8_0 => ?_)
        · skip
          refine xl_pure rfl rfl rfl (pv_assign (v := .bool _) rfl rfl) ?_
          refine xl_nil ?_
          refine xthen_normal ?_
          refine xc_cond_t rfl ?_
          refine xc_seq ?_
          refine xc_region ?_
          refine xl_light rfl rfl rfl (lv_load (v := .agg _) rfl rfl (by first | exact ld_blk_a hr rfl rfl | exact hz)) ?_
          refine xl_pure rfl rfl rfl (pv_move (v := .int _ _) rfl rfl) ?_
          refine xl_heavy rfl rfl rfl (hv_call (g := 24) rfl rfl (c24 j a c now (hs.ext hX) hl) rfl) ?_
          rintro v9_2 H9_2 ⟨e9_2, j9_2, a9_2, c9_2, rfl, hd9_2, hk9_2, hE9_2⟩
          have hX := hX.trans hE9_2
          have hz := hz.ext hE9_2
          refine xl_pure rfl rfl rfl (pv_extract (v := .agg _) rfl rfl rfl) ?_
          refine xl_pure rfl rfl rfl (pv_extract (v := .int _ _) rfl rfl rfl) ?_
          refine xl_store rfl rfl (hv_storeA (vs := [.int _ _, .int _ _, .int _ _, .int _ _, .int _ _, .int _ _, .int _ _, .int _ _, .int _ _, .int _ _, .int _ _, .slice _ _ _, .int _ _, .int _ _, .int _ _, .int _ _]) rfl rfl rfl (by first | exact ld_blk_a hr rfl rfl | exact hz) rfl (by rfl) rfl) ?_
          rintro v9_5 H9_5 ⟨hU9_5, hZ9_5⟩
          have hX := hX.ofBut hU9_5.but hgz
          have hz := hU9_5.blk
          refine xl_pure rfl rfl rfl (pv_assign (v := .int _ _) rfl rfl) ?_
          refine xl_nil ?_
          refine xthen_normal ?_
          refine xc_ret ?_
          refine xblock_ret ?_
          refine xthen_ret ?_
          refine fin_ret (resv2 rfl (rv_c (ty := 26) rfl (ld_blk_a hz rfl rfl)) (rv_t (v := .int _ _) rfl)) ?_
          exact ⟨e9_2, j9_2, a9_2, c9_2, rfl, hd9_2.trans (by subst h8_0; rfl), hk9_2, hX⟩
        · skip
          refine xl_pure rfl rfl rfl (pv_assign (v := .bool _) rfl rfl) ?_
          refine xl_nil ?_
          refine xthen_normal ?_
          refine xc_cond_f rfl ?_
          refine xc_seq ?_
          refine xc_region ?_
          refine xl_dec rfl rfl rfl (pv_eql rfl rfl rfl) (fun h10_0 => ?_) (fun h10_0 => ?_)
          · skip
            refine xl_pure rfl rfl rfl (pv_assign (v := .bool _) rfl rfl) ?_
            refine xl_nil ?_
            refine xthen_normal ?_
            refine xc_cond_t rfl ?_
            refine xc_seq ?_
            refine xc_region ?_
            refine xl_light rfl rfl rfl (lv_load (v := .agg _) rfl rfl (by first | exact ld_blk_a hr rfl rfl | exact hz)) ?_
            refine xl_heavy rfl rfl rfl (hv_call (g := 25) rfl rfl (c25 j a c (hs.ext hX) hl) rfl) ?_
            rintro v11_1 H11_1 ⟨e11_1, j11_1, a11_1, c11_1, rfl, hd11_1, hk11_1, hE11_1⟩
            have hX := hX.trans hE11_1
            have hz := hz.ext hE11_1
            refine xl_pure rfl rfl rfl (pv_extract (v := .agg _) rfl rfl rfl) ?_
            refine xl_pure rfl rfl rfl (pv_extract (v := .int _ _) rfl rfl rfl) ?_
            refine xl_store rfl rfl (hv_storeA (vs := [.int _ _, .int _ _, .int _ _, .int _ _, .int _ _, .int _ _, .int _ _, .int _ _, .int _ _, .int _ _, .int _ _, .slice _ _ _, .int _ _, .int _ _, .int _ _, .int _ _]) rfl rfl rfl (by first | exact ld_blk_a hr rfl rfl | exact hz) rfl (by rfl) rfl) ?_
            rintro v11_4 H11_4 ⟨hU11_4, hZ11_4⟩
            have hX := hX.ofBut hU11_4.but hgz
            have hz := hU11_4.blk
            refine xl_pure rfl rfl rfl (pv_assign (v := .int _ _) rfl rfl) ?_
            refine xl_nil ?_
            refine xthen_normal ?_
            refine xc_ret ?_
            refine xblock_ret ?_
            refine xthen_ret ?_
            refine fin_ret (resv2 rfl (rv_c (ty := 26) rfl (ld_blk_a hz rfl rfl)) (rv_t (v := .int _ _) rfl)) ?_
            exact ⟨e11_1, j11_1, a11_1, c11_1, rfl, hd11_1.trans (by subst h10_0; rfl), hk11_1, hX⟩
          · skip
            refine xl_pure rfl rfl rfl (pv_assign (v := .bool _) rfl rfl) ?_
            refine xl_nil ?_
            refine xthen_normal ?_
            refine xc_cond_f rfl ?_
            refine xc_skip ?_
            refine xblock_normal ?_
            refine xthen_normal ?_
            refine xc_seq ?_
            refine xc_region ?_
            refine xl_light rfl rfl rfl (lv_load (v := .agg _) rfl rfl (by first | exact ld_blk_a hr rfl rfl | exact hz)) ?_
            refine xl_heavy rfl rfl rfl (hv_call (g := 26) rfl rfl (c26 j a c (hs.ext hX) hl) rfl) ?_
            rintro v12_1 H12_1 ⟨e12_1, j12_1, a12_1, c12_1, rfl, hd12_1, hk12_1, hE12_1⟩
            have hX := hX.trans hE12_1
            have hz := hz.ext hE12_1
            refine xl_pure rfl rfl rfl (pv_extract (v := .agg _) rfl rfl rfl) ?_
            refine xl_pure rfl rfl rfl (pv_extract (v := .int _ _) rfl rfl rfl) ?_
            refine xl_store rfl rfl (hv_storeA (vs := [.int _ _, .int _ _, .int _ _, .int _ _, .int _ _, .int _ _, .int _ _, .int _ _, .int _ _, .int _ _, .int _ _, .slice _ _ _, .int _ _, .int _ _, .int _ _, .int _ _]) rfl rfl rfl (by first | exact ld_blk_a hr rfl rfl | exact hz) rfl (by rfl) rfl) ?_
            rintro v12_4 H12_4 ⟨hU12_4, hZ12_4⟩
            have hX := hX.ofBut hU12_4.but hgz
            have hz := hU12_4.blk
            refine xl_pure rfl rfl rfl (pv_assign (v := .int _ _) rfl rfl) ?_
            refine xl_nil ?_
            refine xthen_normal ?_
            refine xc_ret ?_
            refine fin_ret (resv2 rfl (rv_c (ty := 26) rfl (ld_blk_a hz rfl rfl)) (rv_t (v := .int _ _) rfl)) ?_
            exact ⟨e12_1, j12_1, a12_1, c12_1, rfl, hd12_1.trans (do6 now h2_0 h4_0 h6_0 h8_0 h10_0).symm, hk12_1, hX⟩
end Go.XG
