/-
  Walks of the seat's functions over the logic XG: each function, what it computes. Printed by a program out of wip/walks.py.
-/
import Derived.Test.YtecjgodbgfollaaI
import Derived.Test.YtecjgodbgfollaaLn
import Derived.Test.YtecjgodbgfollaaNa
import Derived.Test.YtecjgodbgfollaaNb
import Derived.Test.YtecjgodbgfollaaNc
import Derived.Test.YtecjgodbgfollaaNd
import Derived.Test.YtecjgodbgfollaaNf
import Derived.Test.YtecjgodbgfollaaNg
import Derived.Test.YtecjgodbgfollaaE
import Derived.Test.YtecjgodbgfollaaWa
import Derived.Test.YtecjgodbgfollaaWb
import Derived.Test.YtecjgodbgfollaaWc
import Derived.Test.YtecjgodbgfollaaWd
import Derived.Test.YtecjgodbgfollaaWe
namespace Go.XG
open Go.Proofs Go.Pen
set_option maxRecDepth 4000
set_option maxHeartbeats 4000000
theorem c8n {O : Outer} {H : Heap} {B p vc : Nat} {va : Option Addr} {l : List (List Int)} (hg : LogAt H B p va vc none l) (a w i s : Int) :
    FnC Try.prog 8 #[.pointer (some ⟨p, 0, none⟩), .agg #[.int .i64 a, .int .i64 w, .int .i64 i, .int .i64 s]] O H (fun v H' => ∃ e l' va' vc' mv', v = .int .i64 e ∧ addL l a w i s = (e, l') ∧ LogAt H' B p va' vc' mv' l' ∧ KeepF (Ft p va none) H H' ∧ Grown (Ft p va none) (Ft p va' mv') H) := by
  refine fn_enter (A := [.pointer (some ⟨p, 0, none⟩), .agg #[.int .i64 a, .int .i64 w, .int .i64 i, .int .i64 s]]) Try.func8 rfl rfl ?_
  have mp := hg.blk
  have hR := hg.rows
  have hlen := hg.len
  have ho := hg.own
  have hE0 := Ext.refl H
  have hX := KeepF.refl (Ft p va none) H
  refine xc_seq ?_
  refine xc_region ?_
  refine xl_heavy rfl rfl rfl (hv_box rfl rfl) ?_
  rintro v0_0 H0_0 ⟨b0_0, rfl, hN0_0⟩
  have gb0_0 := hX.fresh hN0_0
  have gb0_0_hE0 := hE0.fresh hN0_0
  have nmp_0_0 := mp.apart hN0_0
  have pm0_0_ho := ho.apartN hN0_0
  have mp := mp.ext hN0_0.ext
  have ho := ho.ext hN0_0.ext
  have hX := hX.transE hN0_0.ext
  have hE0 := hE0.trans hN0_0.ext
  have m0_0 := hN0_0.blk
  refine xl_pure rfl rfl rfl (pv_assign (v := .int _ _) rfl rfl) ?_
  refine xl_nil ?_
  refine xthen_normal ?_
  refine xc_seq ?_
  refine xc_seq ?_
  refine xp_start rfl (by repeat (first | with_reducible exact np_fin | with_reducible refine np_then ?_ | with_reducible refine np_block ?_)) (by kernel_rfl) ?_
  refine xp_pure (i := 0) rfl (by kernel_rfl) (by kernel_rfl) rfl rfl rfl (pv_move (v := .pointer _) rfl rfl) ?_
  refine xp_pure (i := 1) rfl (by kernel_rfl) (by kernel_rfl) rfl rfl rfl (pv_eql_pn rfl rfl rfl) ?_
  refine xp_pure (i := 2) rfl (by kernel_rfl) (by kernel_rfl) rfl rfl rfl (pv_move (v := .bool _) rfl rfl) ?_
  refine xp_light (i := 3) rfl (by kernel_rfl) (by kernel_rfl) rfl rfl rfl (lv_load (v := .agg _) rfl rfl (ld_blk_a m0_0 rfl rfl)) ?_
  refine xp_heavy (i := 4) (by kernel_rfl) ?_
  refine xph_val rfl rfl rfl rfl (hv_call (g := 24) rfl rfl (c24 a w i s) rfl) (pd (by kernel_rfl) pn) ?_
  rintro v1_4 H1_4 ⟨r1_4, rfl, hb1_4, hE1_4⟩
  have mp := mp.ext hE1_4
  have ho := ho.ext hE1_4
  have m0_0 := m0_0.ext hE1_4
  have hX := hX.transE hE1_4
  have hE0 := hE0.trans hE1_4
  refine ⟨okn, ?_⟩
  cases r1_4
  · skip
    replace hb1_4 := mt hb1_4.2 (by decide)
    refine xp_pure (i := 5) rfl (by kernel_rfl) (by kernel_rfl) rfl rfl rfl (pv_not rfl rfl) ?_
    refine xp_pure (i := 6) rfl (by kernel_rfl) (by kernel_rfl) rfl rfl rfl (pv_pick_f (v := .bool _) rfl rfl rfl) ?_
    refine xp_pure (i := 7) rfl (by kernel_rfl) (by kernel_rfl) rfl rfl rfl (pv_move (v := .bool _) rfl rfl) ?_
    refine xp_skip (i := 8) rfl (by kernel_rfl) (by kernel_rfl) rfl rfl rfl ?_
    refine xp_skip (i := 9) rfl (by kernel_rfl) (by kernel_rfl) rfl rfl rfl ?_
    refine xp_skip (i := 10) rfl (by kernel_rfl) (by kernel_rfl) rfl rfl rfl ?_
    refine xp_skip (i := 11) rfl (by kernel_rfl) (by kernel_rfl) rfl rfl rfl ?_
    refine xp_skip (i := 12) rfl (by kernel_rfl) (by kernel_rfl) rfl rfl rfl ?_
    refine xp_pure (i := 13) rfl (by kernel_rfl) (by kernel_rfl) rfl rfl rfl (pv_pick_t (v := .bool _) rfl rfl rfl) ?_
    refine xp_done (by kernel_rfl) ?_
    refine xthen_normal ?_
    refine xc_cond_t rfl ?_
    refine xc_seq ?_
    refine xc_region ?_
    refine xl_pure rfl rfl rfl (pv_assign (v := .int _ _) rfl rfl) ?_
    refine xl_nil ?_
    refine xthen_normal ?_
    refine xc_ret ?_
    refine xthen_ret ?_
    refine fin_ret (res1 (v := .int _ _) rfl rfl) ?_
    exact ⟨1, l, va, vc, none, rfl, add_1 (by first | exact .inl (by assumption) | exact .inr (by assumption)), hg.ext hE0, hX, Grown.refl _ _⟩
  · skip
    replace hb1_4 := hb1_4.1 rfl
    refine xp_pure (i := 5) rfl (by kernel_rfl) (by kernel_rfl) rfl rfl rfl (pv_not rfl rfl) ?_
    refine xp_pure (i := 6) rfl (by kernel_rfl) (by kernel_rfl) rfl rfl rfl (pv_pick_f (v := .bool _) rfl rfl rfl) ?_
    refine xp_pure (i := 7) rfl (by kernel_rfl) (by kernel_rfl) rfl rfl rfl (pv_move (v := .bool _) rfl rfl) ?_
    refine xp_pure (i := 8) rfl (by kernel_rfl) (by kernel_rfl) rfl rfl rfl (pv_fieldAddr rfl rfl) ?_
    refine xp_light (i := 9) rfl (by kernel_rfl) (by kernel_rfl) rfl rfl rfl (lv_load (v := .int _ _) rfl rfl (ld_blk m0_0 rfl)) ?_
    refine xp_pure (i := 10) rfl (by kernel_rfl) (by kernel_rfl) rfl rfl rfl (pv_move (v := .pointer _) rfl rfl) ?_
    refine xp_heavy (i := 11) (by kernel_rfl) ?_
    refine xph_val rfl rfl rfl rfl (hv_call (g := 25) rfl rfl (c25 (hg.ext hE0)) rfl) (pk (by kernel_rfl) pn) ?_
    rintro v1_11 H1_11 ⟨rfl, rfl⟩
    refine ⟨(okc (lv_load (v := .int _ _) rfl rfl (ld_blk m0_0 rfl)) okn), ?_⟩
    refine xp_dec (i := 12) rfl (by kernel_rfl) (by kernel_rfl) rfl rfl rfl (pv_lss rfl rfl rfl) (fun h1_12 => ?_) (fun h1_12 => ?_)
    · skip
      refine xp_pure (i := 13) rfl (by kernel_rfl) (by kernel_rfl) rfl rfl rfl (pv_pick_f (v := .bool _) rfl rfl rfl) ?_
      refine xp_done (by kernel_rfl) ?_
      refine xthen_normal ?_
      refine xc_cond_t rfl ?_
      refine xc_seq ?_
      refine xc_region ?_
      refine xl_pure rfl rfl rfl (pv_assign (v := .int _ _) rfl rfl) ?_
      refine xl_nil ?_
      refine xthen_normal ?_
      refine xc_ret ?_
      refine xthen_ret ?_
      refine fin_ret (res1 (v := .int _ _) rfl rfl) ?_
      exact ⟨1, l, va, vc, none, rfl, add_1 (by first | exact .inl (by assumption) | exact .inr (by assumption)), hg.ext hE0, hX, Grown.refl _ _⟩
    · skip
      refine xp_pure (i := 13) rfl (by kernel_rfl) (by kernel_rfl) rfl rfl rfl (pv_pick_f (v := .bool _) rfl rfl rfl) ?_
      refine xp_done (by kernel_rfl) ?_
      refine xthen_normal ?_
      refine xc_cond_f rfl ?_
      refine xc_skip ?_
      refine xthen_normal ?_
      refine xc_seq ?_
      refine xc_seq ?_
      refine xc_region ?_
      refine xl_pure rfl rfl rfl (pv_move (v := .pointer _) rfl rfl) ?_
      refine xl_pure rfl rfl rfl (pv_fieldAddr rfl rfl) ?_
      refine xl_light rfl rfl rfl (lv_load (v := .int _ _) rfl rfl (ld_blk m0_0 rfl)) ?_
      refine xl_pure rfl rfl rfl (pv_fieldAddr rfl rfl) ?_
      refine xl_light rfl rfl rfl (lv_load (v := .int _ _) rfl rfl (ld_blk m0_0 rfl)) ?_
      refine xl_heavy rfl rfl rfl (hv_call (g := 7) rfl rfl (c7 (hg.ext hE0) w i) rfl) ?_
      rintro v3_5 H3_5 ⟨rfl, hE3_5⟩
      have mp := mp.ext hE3_5
      have ho := ho.ext hE3_5
      have m0_0 := m0_0.ext hE3_5
      have hX := hX.transE hE3_5
      have hE0 := hE0.trans hE3_5
      cases hof : (ofI l w i).isSome
      · skip
        refine xl_pure rfl rfl rfl (pv_move (v := .tuple _) rfl rfl) ?_
        refine xl_pure rfl rfl rfl (pv_extract (v := .agg _) rfl rfl rfl) ?_
        refine xl_pure rfl rfl rfl (pv_extract (v := .bool _) rfl rfl rfl) ?_
        refine xl_heavy rfl rfl rfl (hv_alloc rfl rfl) ?_
        rintro v3_9 H3_9 ⟨b3_9, rfl, hN3_9⟩
        have gb3_9 := hX.fresh hN3_9
        have gb3_9_hE0 := hE0.fresh hN3_9
        have nmp_3_9 := mp.apart hN3_9
        have pm3_9_ho := ho.apartN hN3_9
        have nm0_0_3_9 := m0_0.apart hN3_9
        have mp := mp.ext hN3_9.ext
        have ho := ho.ext hN3_9.ext
        have m0_0 := m0_0.ext hN3_9.ext
        have hX := hX.transE hN3_9.ext
        have hE0 := hE0.trans hN3_9.ext
        have m3_9 := hN3_9.blk
        refine xl_store rfl rfl (hv_storeA (vs := ints (ofR l w i)) rfl rfl rfl (m3_9) ((List.length_map _).trans (ofR_len hg.wide)) (by rfl) (ints_one _)) ?_
        rintro v3_10 H3_10 ⟨hU3_10, hZ3_10⟩
        have hE0 := hE0.upd hU3_10.but gb3_9_hE0
        have mp := mp.off hU3_10.but (nmp_3_9)
        have ho := ho.offU m3_9 hU3_10.but (.inr pm3_9_ho)
        have m0_0 := m0_0.off hU3_10.but (nm0_0_3_9)
        have hX := hX.upd hU3_10.but gb3_9
        have m3_9 := hU3_10.blk
        refine xl_pure rfl rfl rfl (pv_assign (v := .bool _) rfl rfl) ?_
        refine xl_nil ?_
        refine xthen_normal ?_
        refine xc_seq ?_
        refine xc_region ?_
        refine xl_pure rfl rfl rfl (pv_move (v := .bool _) rfl rfl) ?_
        refine xl_nil ?_
        refine xthen_normal ?_
        refine xc_cond_f rfl ?_
        refine xc_skip ?_
        refine xthen_normal ?_
        refine xc_seq ?_
        refine xc_seq ?_
        refine xc_region ?_
        refine xl_pure rfl rfl rfl (pv_move (v := .pointer _) rfl rfl) ?_
        refine xl_pure rfl rfl rfl (pv_nilCheck_p rfl rfl) ?_
        refine xl_pure rfl rfl rfl (pv_fieldAddr rfl rfl) ?_
        refine xl_light rfl rfl rfl (lv_load (v := .slice _ _ _) rfl rfl (ld_blk mp rfl)) ?_
        refine xl_pure rfl rfl rfl (pv_len_l rfl rfl) ?_
        refine xl_dec rfl rfl rfl (pv_geq rfl rfl rfl) (fun h6_5 => ?_) (fun h6_5 => ?_)
        · skip
          refine xl_nil ?_
          refine xthen_normal ?_
          refine xc_cond_t rfl ?_
          refine xc_seq ?_
          refine xc_region ?_
          refine xl_pure rfl rfl rfl (pv_assign (v := .int _ _) rfl rfl) ?_
          refine xl_nil ?_
          refine xthen_normal ?_
          refine xc_ret ?_
          refine xthen_ret ?_
          refine fin_ret (res1 (v := .int _ _) rfl rfl) ?_
          exact ⟨4, l, va, vc, none, rfl, add_4 (fun h => h.elim (fun h => h hb1_4) (fun h => h1_12 h)) hof (by omega), hg.ext hE0, hX, Grown.refl _ _⟩
        · skip
          refine xl_nil ?_
          refine xthen_normal ?_
          refine xc_cond_f rfl ?_
          refine xc_skip ?_
          refine xthen_normal ?_
          refine xc_seq ?_
          refine xc_seq ?_
          refine xc_region ?_
          refine xl_pure rfl rfl rfl (pv_move (v := .pointer _) rfl rfl) ?_
          refine xl_pure rfl rfl rfl (pv_nilCheck_p rfl rfl) ?_
          refine xl_pure rfl rfl rfl (pv_fieldAddr rfl rfl) ?_
          refine xl_light rfl rfl rfl (lv_load (v := .map _) rfl rfl (ld_blk mp rfl)) ?_
          refine xl_pure rfl rfl rfl (pv_eql_mn rfl rfl rfl) ?_
          refine xl_nil ?_
          refine xthen_normal ?_
          refine xc_cond_t rfl ?_
          refine xc_region ?_
          refine xl_pure rfl rfl rfl (pv_move (v := .pointer _) rfl rfl) ?_
          refine xl_heavy rfl rfl rfl (hv_makeMap kvA 2 rfl) ?_
          rintro v9_1 H9_1 ⟨b9_1, rfl, hN9_1⟩
          have hfm := hX.freshM hN9_1
          have mp := mp.ext hN9_1.ext
          have m0_0 := m0_0.ext hN9_1.ext
          have ho := ho.ext hN9_1.ext
          have hX := hX.transE hN9_1.ext
          have hm := hN9_1.map
          have hBm := Nat.le_trans (Nat.le_trans hg.base (Nat.le_of_lt hg.blk.lt)) hfm.le
          obtain rfl : l = [] := hg.map
          refine xl_pure rfl rfl rfl (pv_nilCheck_p rfl rfl) ?_
          refine xl_pure rfl rfl rfl (pv_fieldAddr rfl rfl) ?_
          refine xl_store rfl rfl (hv_store (vs := [.map _]) rfl rfl rfl (mp) rfl (Nat.le_of_ble_eq_true rfl) rfl) ?_
          rintro v9_4 H9_4 ⟨hU9_4, hZ9_4⟩
          have ho := ho.offU mp hU9_4.but (.inl rfl)
          have m0_0 := m0_0.off hU9_4.but (nmp_0_0.symm)
          have hm := hm.off hU9_4.but ((hm.blk mp).symm)
          have hX := hX.own hU9_4.but (.inl rfl)
          have mp := hU9_4.blk
          refine xl_nil ?_
          refine xthen_normal ?_
          refine xc_seq ?_
          refine xp_start rfl (by repeat (first | with_reducible exact np_fin | with_reducible refine np_then ?_ | with_reducible refine np_block ?_)) (by kernel_rfl) ?_
          refine xp_pure (i := 0) rfl (by kernel_rfl) (by kernel_rfl) rfl rfl rfl (pv_move (v := .pointer _) rfl rfl) ?_
          refine xp_pure (i := 1) rfl (by kernel_rfl) (by kernel_rfl) rfl rfl rfl (pv_nilCheck_p rfl rfl) ?_
          refine xp_pure (i := 2) rfl (by kernel_rfl) (by kernel_rfl) rfl rfl rfl (pv_fieldAddr rfl rfl) ?_
          refine xp_light (i := 3) rfl (by kernel_rfl) (by kernel_rfl) rfl rfl rfl (lv_load (v := .map _) rfl rfl (ld_blk mp rfl)) ?_
          refine xp_pure (i := 4) rfl (by kernel_rfl) (by kernel_rfl) rfl rfl rfl (pv_fieldAddr rfl rfl) ?_
          refine xp_light (i := 5) rfl (by kernel_rfl) (by kernel_rfl) rfl rfl rfl (lv_load (v := .int _ _) rfl rfl (ld_blk m0_0 rfl)) ?_
          refine xp_pure (i := 6) rfl (by kernel_rfl) (by kernel_rfl) rfl rfl rfl (pv_fieldAddr rfl rfl) ?_
          refine xp_light (i := 7) rfl (by kernel_rfl) (by kernel_rfl) rfl rfl rfl (lv_load (v := .int _ _) rfl rfl (ld_blk m0_0 rfl)) ?_
          refine xp_pure (i := 8) rfl (by kernel_rfl) (by kernel_rfl) rfl rfl rfl (pv_build_a (cs := [.int _ _, .int _ _]) rfl rfl rfl) ?_
          refine xp_pure (i := 9) rfl (by kernel_rfl) (by kernel_rfl) rfl rfl rfl (pv_move (v := .pointer _) rfl rfl) ?_
          refine xp_pure (i := 10) rfl (by kernel_rfl) (by kernel_rfl) rfl rfl rfl (pv_nilCheck_p rfl rfl) ?_
          refine xp_pure (i := 11) rfl (by kernel_rfl) (by kernel_rfl) rfl rfl rfl (pv_fieldAddr rfl rfl) ?_
          refine xp_light (i := 12) rfl (by kernel_rfl) (by kernel_rfl) rfl rfl rfl (lv_load (v := .slice _ _ _) rfl rfl (ld_blk mp rfl)) ?_
          refine xp_pure (i := 13) rfl (by kernel_rfl) (by kernel_rfl) rfl rfl rfl (pv_len_l rfl rfl) ?_
          refine xp_heavy (i := 14) (by kernel_rfl) ?_
          refine xph_store rfl rfl rfl (hv_mapUpdate (ns := [w, i]) (es := idx 0 []) rfl rfl rfl rfl rfl hm) (pd (by kernel_rfl) (pd (by kernel_rfl) (pd (by kernel_rfl) (pd (by kernel_rfl) pn)))) ?_
          rintro v10_14 H10_14 hU10_14
          have hX := hX.upd hU10_14.but hfm
          have mp := mp.off hU10_14.but (hm.blk mp)
          have m0_0 := m0_0.off hU10_14.but (hm.blk m0_0)
          have ho := ho.offM hm hU10_14.but
          have hm := hU10_14.map
          have hpi := put_idx 0 [] a w i s (isSome_no hof)
          rw [Nat.zero_add] at hpi
          replace hm : MapAt H10_14 b9_1 kvA 2 (idx 0 ([] ++ [[a, w, i, s]])) := by rw [← hpi]; exact hm
          refine ⟨okn, ?_⟩
          refine xp_done (by kernel_rfl) ?_
          refine xthen_normal ?_
          refine xc_seq ?_
          refine xp_start rfl (by repeat (first | with_reducible exact np_fin | with_reducible refine np_then ?_ | with_reducible refine np_block ?_)) (by kernel_rfl) ?_
          refine xp_pure (i := 0) rfl (by kernel_rfl) (by kernel_rfl) rfl rfl rfl (pv_move (v := .pointer _) rfl rfl) ?_
          refine xp_pure (i := 1) rfl (by kernel_rfl) (by kernel_rfl) rfl rfl rfl (pv_move (v := .pointer _) rfl rfl) ?_
          refine xp_pure (i := 2) rfl (by kernel_rfl) (by kernel_rfl) rfl rfl rfl (pv_nilCheck_p rfl rfl) ?_
          refine xp_pure (i := 3) rfl (by kernel_rfl) (by kernel_rfl) rfl rfl rfl (pv_fieldAddr rfl rfl) ?_
          refine xp_light (i := 4) rfl (by kernel_rfl) (by kernel_rfl) rfl rfl rfl (lv_load (v := .slice _ _ _) rfl rfl (ld_blk mp rfl)) ?_
          refine xp_light (i := 5) rfl (by kernel_rfl) (by kernel_rfl) rfl rfl rfl (lv_load (v := .agg _) rfl rfl (ld_blk_a m0_0 rfl rfl)) ?_
          refine xp_heavy (i := 6) (by kernel_rfl) ?_
          refine xph_val rfl rfl rfl rfl (hv_buildSlice (cs := [.int _ _, .int _ _, .int _ _, .int _ _]) rfl rfl rfl rfl rfl) (pd (by kernel_rfl) (pk (by kernel_rfl) pn)) ?_
          rintro v11_6 H11_6 ⟨b11_6, rfl, hN11_6⟩
          have gb11_6 := hX.fresh hN11_6
          have nmp_11_6 := mp.apart hN11_6
          have pm11_6_ho := ho.apartN hN11_6
          have nm0_0_11_6 := m0_0.apart hN11_6
          have nhm_11_6 := hm.apart hN11_6
          have mp := mp.ext hN11_6.ext
          have ho := ho.ext hN11_6.ext
          have m0_0 := m0_0.ext hN11_6.ext
          have hm := hm.ext hN11_6.ext
          have hX := hX.transE hN11_6.ext
          have m11_6 := hN11_6.blk
          refine ⟨(okc (lv_load (v := .slice _ _ _) rfl rfl (ld_blk mp rfl)) okn), ?_⟩
          refine xp_heavy (i := 7) (by kernel_rfl) ?_
          refine xph_val rfl rfl rfl rfl (hv_append rfl rfl ho rfl m11_6.row rfl (by simp [Value.oneCell']) rfl (by decide) (by first | omega | decide) (by first | omega | decide) (Nat.le_trans hg.base (Nat.le_of_lt mp.lt))) (pd (by kernel_rfl) pn) ?_
          rintro v11_7 H11_7 ⟨hO11_7, hG11_7, -, hB11_7⟩
          have hsz := hX.size
          have mp := mp.offT ho hG11_7 rfl
          have hm := hm.grow ho hG11_7
          have hX := hX.grown hG11_7 (fun i hi => .inl (ft_own hi))
          obtain ⟨a11_7, c11_7, rfl⟩ := hO11_7.val
          have hgr := grown_log (p := p) (mv := none) (mv' := some b9_1) hB11_7 hsz (.inr ⟨_, rfl, hfm.le⟩)
          refine ⟨okn, ?_⟩
          refine xp_pure (i := 8) rfl (by kernel_rfl) (by kernel_rfl) rfl rfl rfl (pv_nilCheck_p rfl rfl) ?_
          refine xp_pure (i := 9) rfl (by kernel_rfl) (by kernel_rfl) rfl rfl rfl (pv_fieldAddr rfl rfl) ?_
          refine xp_heavy (i := 10) (by kernel_rfl) ?_
          refine xph_store rfl rfl rfl (hv_store (vs := [.slice _ _ _]) rfl rfl rfl (mp) rfl (Nat.le_of_ble_eq_true rfl) rfl) pn ?_
          rintro v11_10 H11_10 ⟨hU11_10, hZ11_10⟩
          have hm := hm.off hU11_10.but ((hm.blk mp).symm)
          have hO11_7 := hO11_7.offU mp hU11_10.but (.inl rfl)
          have hX := hX.own hU11_10.but (.inl rfl)
          have mp := hU11_10.blk
          refine ⟨okn, ?_⟩
          refine xp_done (by kernel_rfl) ?_
          refine xthen_normal ?_
          refine xc_seq ?_
          refine xc_region ?_
          refine xl_pure rfl rfl rfl (pv_assign (v := .int _ _) rfl rfl) ?_
          refine xl_nil ?_
          refine xthen_normal ?_
          refine xc_ret ?_
          refine fin_ret (res1 (v := .int _ _) rfl rfl) ?_
          exact ⟨0, ([] : List (List Int)) ++ [[a, w, i, s]], a11_7, c11_7, some b9_1, rfl, add_0 (fun h => h.elim (fun h => h hb1_4) (fun h => h1_12 h)) hof (by first | omega | decide), ⟨by rw [List.length_append]; exact mp, by rw [List.length_append]; simpa [fr_snoc, ints, fr] using hO11_7, ⟨hm, hBm⟩, wide_snoc hg.wide rfl, by rw [List.length_append]; (try simp); (try omega), hg.base⟩, hX, hgr⟩
      · skip
        refine xl_pure rfl rfl rfl (pv_move (v := .tuple _) rfl rfl) ?_
        refine xl_pure rfl rfl rfl (pv_extract (v := .agg _) rfl rfl rfl) ?_
        refine xl_pure rfl rfl rfl (pv_extract (v := .bool _) rfl rfl rfl) ?_
        refine xl_heavy rfl rfl rfl (hv_alloc rfl rfl) ?_
        rintro v3_9 H3_9 ⟨b3_9, rfl, hN3_9⟩
        have gb3_9 := hX.fresh hN3_9
        have gb3_9_hE0 := hE0.fresh hN3_9
        have nmp_3_9 := mp.apart hN3_9
        have pm3_9_ho := ho.apartN hN3_9
        have nm0_0_3_9 := m0_0.apart hN3_9
        have mp := mp.ext hN3_9.ext
        have ho := ho.ext hN3_9.ext
        have m0_0 := m0_0.ext hN3_9.ext
        have hX := hX.transE hN3_9.ext
        have hE0 := hE0.trans hN3_9.ext
        have m3_9 := hN3_9.blk
        refine xl_store rfl rfl (hv_storeA (vs := ints (ofR l w i)) rfl rfl rfl (m3_9) ((List.length_map _).trans (ofR_len hg.wide)) (by rfl) (ints_one _)) ?_
        rintro v3_10 H3_10 ⟨hU3_10, hZ3_10⟩
        have hE0 := hE0.upd hU3_10.but gb3_9_hE0
        have mp := mp.off hU3_10.but (nmp_3_9)
        have ho := ho.offU m3_9 hU3_10.but (.inr pm3_9_ho)
        have m0_0 := m0_0.off hU3_10.but (nm0_0_3_9)
        have hX := hX.upd hU3_10.but gb3_9
        have m3_9 := hU3_10.blk
        refine xl_pure rfl rfl rfl (pv_assign (v := .bool _) rfl rfl) ?_
        refine xl_nil ?_
        refine xthen_normal ?_
        refine xc_seq ?_
        refine xc_region ?_
        refine xl_pure rfl rfl rfl (pv_move (v := .bool _) rfl rfl) ?_
        refine xl_nil ?_
        refine xthen_normal ?_
        refine xc_cond_t rfl ?_
        refine xc_seq ?_
        refine xc_region ?_
        refine xl_pure rfl rfl rfl (pv_assign (v := .int _ _) rfl rfl) ?_
        refine xl_nil ?_
        refine xthen_normal ?_
        refine xc_ret ?_
        refine xthen_ret ?_
        refine fin_ret (res1 (v := .int _ _) rfl rfl) ?_
        exact ⟨9, l, va, vc, none, rfl, add_9 (fun h => h.elim (fun h => h hb1_4) (fun h => h1_12 h)) hof, hg.ext hE0, hX, Grown.refl _ _⟩

theorem c8m {O : Outer} {H : Heap} {B p vc : Nat} {va : Option Addr} {m : Nat} {l : List (List Int)} (hg : LogAt H B p va vc (some m) l) (a w i s : Int) :
    FnC Try.prog 8 #[.pointer (some ⟨p, 0, none⟩), .agg #[.int .i64 a, .int .i64 w, .int .i64 i, .int .i64 s]] O H (fun v H' => ∃ e l' va' vc' mv', v = .int .i64 e ∧ addL l a w i s = (e, l') ∧ LogAt H' B p va' vc' mv' l' ∧ KeepF (Ft p va (some m)) H H' ∧ Grown (Ft p va (some m)) (Ft p va' mv') H) := by
  refine fn_enter (A := [.pointer (some ⟨p, 0, none⟩), .agg #[.int .i64 a, .int .i64 w, .int .i64 i, .int .i64 s]]) Try.func8 rfl rfl ?_
  have mp := hg.blk
  have hR := hg.rows
  have hlen := hg.len
  have ho := hg.own
  have hE0 := Ext.refl H
  have hm := hg.map.1
  have hX := KeepF.refl (Ft p va (some m)) H
  refine xc_seq ?_
  refine xc_region ?_
  refine xl_heavy rfl rfl rfl (hv_box rfl rfl) ?_
  rintro v0_0 H0_0 ⟨b0_0, rfl, hN0_0⟩
  have gb0_0 := hX.fresh hN0_0
  have gb0_0_hE0 := hE0.fresh hN0_0
  have nmp_0_0 := mp.apart hN0_0
  have pm0_0_ho := ho.apartN hN0_0
  have nhm_0_0 := hm.apart hN0_0
  have mp := mp.ext hN0_0.ext
  have ho := ho.ext hN0_0.ext
  have hm := hm.ext hN0_0.ext
  have hX := hX.transE hN0_0.ext
  have hE0 := hE0.trans hN0_0.ext
  have m0_0 := hN0_0.blk
  refine xl_pure rfl rfl rfl (pv_assign (v := .int _ _) rfl rfl) ?_
  refine xl_nil ?_
  refine xthen_normal ?_
  refine xc_seq ?_
  refine xc_seq ?_
  refine xp_start rfl (by repeat (first | with_reducible exact np_fin | with_reducible refine np_then ?_ | with_reducible refine np_block ?_)) (by kernel_rfl) ?_
  refine xp_pure (i := 0) rfl (by kernel_rfl) (by kernel_rfl) rfl rfl rfl (pv_move (v := .pointer _) rfl rfl) ?_
  refine xp_pure (i := 1) rfl (by kernel_rfl) (by kernel_rfl) rfl rfl rfl (pv_eql_pn rfl rfl rfl) ?_
  refine xp_pure (i := 2) rfl (by kernel_rfl) (by kernel_rfl) rfl rfl rfl (pv_move (v := .bool _) rfl rfl) ?_
  refine xp_light (i := 3) rfl (by kernel_rfl) (by kernel_rfl) rfl rfl rfl (lv_load (v := .agg _) rfl rfl (ld_blk_a m0_0 rfl rfl)) ?_
  refine xp_heavy (i := 4) (by kernel_rfl) ?_
  refine xph_val rfl rfl rfl rfl (hv_call (g := 24) rfl rfl (c24 a w i s) rfl) (pd (by kernel_rfl) pn) ?_
  rintro v1_4 H1_4 ⟨r1_4, rfl, hb1_4, hE1_4⟩
  have mp := mp.ext hE1_4
  have ho := ho.ext hE1_4
  have hm := hm.ext hE1_4
  have m0_0 := m0_0.ext hE1_4
  have hX := hX.transE hE1_4
  have hE0 := hE0.trans hE1_4
  refine ⟨okn, ?_⟩
  cases r1_4
  · skip
    replace hb1_4 := mt hb1_4.2 (by decide)
    refine xp_pure (i := 5) rfl (by kernel_rfl) (by kernel_rfl) rfl rfl rfl (pv_not rfl rfl) ?_
    refine xp_pure (i := 6) rfl (by kernel_rfl) (by kernel_rfl) rfl rfl rfl (pv_pick_f (v := .bool _) rfl rfl rfl) ?_
    refine xp_pure (i := 7) rfl (by kernel_rfl) (by kernel_rfl) rfl rfl rfl (pv_move (v := .bool _) rfl rfl) ?_
    refine xp_skip (i := 8) rfl (by kernel_rfl) (by kernel_rfl) rfl rfl rfl ?_
    refine xp_skip (i := 9) rfl (by kernel_rfl) (by kernel_rfl) rfl rfl rfl ?_
    refine xp_skip (i := 10) rfl (by kernel_rfl) (by kernel_rfl) rfl rfl rfl ?_
    refine xp_skip (i := 11) rfl (by kernel_rfl) (by kernel_rfl) rfl rfl rfl ?_
    refine xp_skip (i := 12) rfl (by kernel_rfl) (by kernel_rfl) rfl rfl rfl ?_
    refine xp_pure (i := 13) rfl (by kernel_rfl) (by kernel_rfl) rfl rfl rfl (pv_pick_t (v := .bool _) rfl rfl rfl) ?_
    refine xp_done (by kernel_rfl) ?_
    refine xthen_normal ?_
    refine xc_cond_t rfl ?_
    refine xc_seq ?_
    refine xc_region ?_
    refine xl_pure rfl rfl rfl (pv_assign (v := .int _ _) rfl rfl) ?_
    refine xl_nil ?_
    refine xthen_normal ?_
    refine xc_ret ?_
    refine xthen_ret ?_
    refine fin_ret (res1 (v := .int _ _) rfl rfl) ?_
    exact ⟨1, l, va, vc, (some m), rfl, add_1 (by first | exact .inl (by assumption) | exact .inr (by assumption)), hg.ext hE0, hX, Grown.refl _ _⟩
  · skip
    replace hb1_4 := hb1_4.1 rfl
    refine xp_pure (i := 5) rfl (by kernel_rfl) (by kernel_rfl) rfl rfl rfl (pv_not rfl rfl) ?_
    refine xp_pure (i := 6) rfl (by kernel_rfl) (by kernel_rfl) rfl rfl rfl (pv_pick_f (v := .bool _) rfl rfl rfl) ?_
    refine xp_pure (i := 7) rfl (by kernel_rfl) (by kernel_rfl) rfl rfl rfl (pv_move (v := .bool _) rfl rfl) ?_
    refine xp_pure (i := 8) rfl (by kernel_rfl) (by kernel_rfl) rfl rfl rfl (pv_fieldAddr rfl rfl) ?_
    refine xp_light (i := 9) rfl (by kernel_rfl) (by kernel_rfl) rfl rfl rfl (lv_load (v := .int _ _) rfl rfl (ld_blk m0_0 rfl)) ?_
    refine xp_pure (i := 10) rfl (by kernel_rfl) (by kernel_rfl) rfl rfl rfl (pv_move (v := .pointer _) rfl rfl) ?_
    refine xp_heavy (i := 11) (by kernel_rfl) ?_
    refine xph_val rfl rfl rfl rfl (hv_call (g := 25) rfl rfl (c25 (hg.ext hE0)) rfl) (pk (by kernel_rfl) pn) ?_
    rintro v1_11 H1_11 ⟨rfl, rfl⟩
    refine ⟨(okc (lv_load (v := .int _ _) rfl rfl (ld_blk m0_0 rfl)) okn), ?_⟩
    refine xp_dec (i := 12) rfl (by kernel_rfl) (by kernel_rfl) rfl rfl rfl (pv_lss rfl rfl rfl) (fun h1_12 => ?_) (fun h1_12 => ?_)
    · skip
      refine xp_pure (i := 13) rfl (by kernel_rfl) (by kernel_rfl) rfl rfl rfl (pv_pick_f (v := .bool _) rfl rfl rfl) ?_
      refine xp_done (by kernel_rfl) ?_
      refine xthen_normal ?_
      refine xc_cond_t rfl ?_
      refine xc_seq ?_
      refine xc_region ?_
      refine xl_pure rfl rfl rfl (pv_assign (v := .int _ _) rfl rfl) ?_
      refine xl_nil ?_
      refine xthen_normal ?_
      refine xc_ret ?_
      refine xthen_ret ?_
      refine fin_ret (res1 (v := .int _ _) rfl rfl) ?_
      exact ⟨1, l, va, vc, (some m), rfl, add_1 (by first | exact .inl (by assumption) | exact .inr (by assumption)), hg.ext hE0, hX, Grown.refl _ _⟩
    · skip
      refine xp_pure (i := 13) rfl (by kernel_rfl) (by kernel_rfl) rfl rfl rfl (pv_pick_f (v := .bool _) rfl rfl rfl) ?_
      refine xp_done (by kernel_rfl) ?_
      refine xthen_normal ?_
      refine xc_cond_f rfl ?_
      refine xc_skip ?_
      refine xthen_normal ?_
      refine xc_seq ?_
      refine xc_seq ?_
      refine xc_region ?_
      refine xl_pure rfl rfl rfl (pv_move (v := .pointer _) rfl rfl) ?_
      refine xl_pure rfl rfl rfl (pv_fieldAddr rfl rfl) ?_
      refine xl_light rfl rfl rfl (lv_load (v := .int _ _) rfl rfl (ld_blk m0_0 rfl)) ?_
      refine xl_pure rfl rfl rfl (pv_fieldAddr rfl rfl) ?_
      refine xl_light rfl rfl rfl (lv_load (v := .int _ _) rfl rfl (ld_blk m0_0 rfl)) ?_
      refine xl_heavy rfl rfl rfl (hv_call (g := 7) rfl rfl (c7 (hg.ext hE0) w i) rfl) ?_
      rintro v3_5 H3_5 ⟨rfl, hE3_5⟩
      have mp := mp.ext hE3_5
      have ho := ho.ext hE3_5
      have hm := hm.ext hE3_5
      have m0_0 := m0_0.ext hE3_5
      have hX := hX.transE hE3_5
      have hE0 := hE0.trans hE3_5
      cases hof : (ofI l w i).isSome
      · skip
        refine xl_pure rfl rfl rfl (pv_move (v := .tuple _) rfl rfl) ?_
        refine xl_pure rfl rfl rfl (pv_extract (v := .agg _) rfl rfl rfl) ?_
        refine xl_pure rfl rfl rfl (pv_extract (v := .bool _) rfl rfl rfl) ?_
        refine xl_heavy rfl rfl rfl (hv_alloc rfl rfl) ?_
        rintro v3_9 H3_9 ⟨b3_9, rfl, hN3_9⟩
        have gb3_9 := hX.fresh hN3_9
        have gb3_9_hE0 := hE0.fresh hN3_9
        have nmp_3_9 := mp.apart hN3_9
        have pm3_9_ho := ho.apartN hN3_9
        have nhm_3_9 := hm.apart hN3_9
        have nm0_0_3_9 := m0_0.apart hN3_9
        have mp := mp.ext hN3_9.ext
        have ho := ho.ext hN3_9.ext
        have hm := hm.ext hN3_9.ext
        have m0_0 := m0_0.ext hN3_9.ext
        have hX := hX.transE hN3_9.ext
        have hE0 := hE0.trans hN3_9.ext
        have m3_9 := hN3_9.blk
        refine xl_store rfl rfl (hv_storeA (vs := ints (ofR l w i)) rfl rfl rfl (m3_9) ((List.length_map _).trans (ofR_len hg.wide)) (by rfl) (ints_one _)) ?_
        rintro v3_10 H3_10 ⟨hU3_10, hZ3_10⟩
        have hE0 := hE0.upd hU3_10.but gb3_9_hE0
        have mp := mp.off hU3_10.but (nmp_3_9)
        have ho := ho.offU m3_9 hU3_10.but (.inr pm3_9_ho)
        have hm := hm.off hU3_10.but (nhm_3_9)
        have m0_0 := m0_0.off hU3_10.but (nm0_0_3_9)
        have hX := hX.upd hU3_10.but gb3_9
        have m3_9 := hU3_10.blk
        refine xl_pure rfl rfl rfl (pv_assign (v := .bool _) rfl rfl) ?_
        refine xl_nil ?_
        refine xthen_normal ?_
        refine xc_seq ?_
        refine xc_region ?_
        refine xl_pure rfl rfl rfl (pv_move (v := .bool _) rfl rfl) ?_
        refine xl_nil ?_
        refine xthen_normal ?_
        refine xc_cond_f rfl ?_
        refine xc_skip ?_
        refine xthen_normal ?_
        refine xc_seq ?_
        refine xc_seq ?_
        refine xc_region ?_
        refine xl_pure rfl rfl rfl (pv_move (v := .pointer _) rfl rfl) ?_
        refine xl_pure rfl rfl rfl (pv_nilCheck_p rfl rfl) ?_
        refine xl_pure rfl rfl rfl (pv_fieldAddr rfl rfl) ?_
        refine xl_light rfl rfl rfl (lv_load (v := .slice _ _ _) rfl rfl (ld_blk mp rfl)) ?_
        refine xl_pure rfl rfl rfl (pv_len_l rfl rfl) ?_
        refine xl_dec rfl rfl rfl (pv_geq rfl rfl rfl) (fun h6_5 => ?_) (fun h6_5 => ?_)
        · skip
          refine xl_nil ?_
          refine xthen_normal ?_
          refine xc_cond_t rfl ?_
          refine xc_seq ?_
          refine xc_region ?_
          refine xl_pure rfl rfl rfl (pv_assign (v := .int _ _) rfl rfl) ?_
          refine xl_nil ?_
          refine xthen_normal ?_
          refine xc_ret ?_
          refine xthen_ret ?_
          refine fin_ret (res1 (v := .int _ _) rfl rfl) ?_
          exact ⟨4, l, va, vc, (some m), rfl, add_4 (fun h => h.elim (fun h => h hb1_4) (fun h => h1_12 h)) hof (by omega), hg.ext hE0, hX, Grown.refl _ _⟩
        · skip
          refine xl_nil ?_
          refine xthen_normal ?_
          refine xc_cond_f rfl ?_
          refine xc_skip ?_
          refine xthen_normal ?_
          refine xc_seq ?_
          refine xc_seq ?_
          refine xc_region ?_
          refine xl_pure rfl rfl rfl (pv_move (v := .pointer _) rfl rfl) ?_
          refine xl_pure rfl rfl rfl (pv_nilCheck_p rfl rfl) ?_
          refine xl_pure rfl rfl rfl (pv_fieldAddr rfl rfl) ?_
          refine xl_light rfl rfl rfl (lv_load (v := .map _) rfl rfl (ld_blk mp rfl)) ?_
          refine xl_pure rfl rfl rfl (pv_eql_mn rfl rfl rfl) ?_
          refine xl_nil ?_
          refine xthen_normal ?_
          refine xc_cond_f rfl ?_
          refine xc_skip ?_
          refine xthen_normal ?_
          refine xc_seq ?_
          refine xp_start rfl (by repeat (first | with_reducible exact np_fin | with_reducible refine np_then ?_ | with_reducible refine np_block ?_)) (by kernel_rfl) ?_
          refine xp_pure (i := 0) rfl (by kernel_rfl) (by kernel_rfl) rfl rfl rfl (pv_move (v := .pointer _) rfl rfl) ?_
          refine xp_pure (i := 1) rfl (by kernel_rfl) (by kernel_rfl) rfl rfl rfl (pv_nilCheck_p rfl rfl) ?_
          refine xp_pure (i := 2) rfl (by kernel_rfl) (by kernel_rfl) rfl rfl rfl (pv_fieldAddr rfl rfl) ?_
          refine xp_light (i := 3) rfl (by kernel_rfl) (by kernel_rfl) rfl rfl rfl (lv_load (v := .map _) rfl rfl (ld_blk mp rfl)) ?_
          refine xp_pure (i := 4) rfl (by kernel_rfl) (by kernel_rfl) rfl rfl rfl (pv_fieldAddr rfl rfl) ?_
          refine xp_light (i := 5) rfl (by kernel_rfl) (by kernel_rfl) rfl rfl rfl (lv_load (v := .int _ _) rfl rfl (ld_blk m0_0 rfl)) ?_
          refine xp_pure (i := 6) rfl (by kernel_rfl) (by kernel_rfl) rfl rfl rfl (pv_fieldAddr rfl rfl) ?_
          refine xp_light (i := 7) rfl (by kernel_rfl) (by kernel_rfl) rfl rfl rfl (lv_load (v := .int _ _) rfl rfl (ld_blk m0_0 rfl)) ?_
          refine xp_pure (i := 8) rfl (by kernel_rfl) (by kernel_rfl) rfl rfl rfl (pv_build_a (cs := [.int _ _, .int _ _]) rfl rfl rfl) ?_
          refine xp_pure (i := 9) rfl (by kernel_rfl) (by kernel_rfl) rfl rfl rfl (pv_move (v := .pointer _) rfl rfl) ?_
          refine xp_pure (i := 10) rfl (by kernel_rfl) (by kernel_rfl) rfl rfl rfl (pv_nilCheck_p rfl rfl) ?_
          refine xp_pure (i := 11) rfl (by kernel_rfl) (by kernel_rfl) rfl rfl rfl (pv_fieldAddr rfl rfl) ?_
          refine xp_light (i := 12) rfl (by kernel_rfl) (by kernel_rfl) rfl rfl rfl (lv_load (v := .slice _ _ _) rfl rfl (ld_blk mp rfl)) ?_
          refine xp_pure (i := 13) rfl (by kernel_rfl) (by kernel_rfl) rfl rfl rfl (pv_len_l rfl rfl) ?_
          refine xp_heavy (i := 14) (by kernel_rfl) ?_
          refine xph_store rfl rfl rfl (hv_mapUpdate (ns := [w, i]) (es := idx 0 l) rfl rfl rfl rfl rfl hm) (pd (by kernel_rfl) (pd (by kernel_rfl) (pd (by kernel_rfl) (pd (by kernel_rfl) pn)))) ?_
          rintro v10_14 H10_14 hU10_14
          have hX := hX.own hU10_14.but (.inr (.inr rfl))
          have mp := mp.off hU10_14.but (hm.blk mp)
          have m0_0 := m0_0.off hU10_14.but (hm.blk m0_0)
          have ho := ho.offM hm hU10_14.but
          have hm := hU10_14.map
          have hpi := put_idx 0 l a w i s (isSome_no hof)
          rw [Nat.zero_add] at hpi
          replace hm : MapAt H10_14 m kvA 2 (idx 0 (l ++ [[a, w, i, s]])) := by rw [← hpi]; exact hm
          refine ⟨okn, ?_⟩
          refine xp_done (by kernel_rfl) ?_
          refine xthen_normal ?_
          refine xc_seq ?_
          refine xp_start rfl (by repeat (first | with_reducible exact np_fin | with_reducible refine np_then ?_ | with_reducible refine np_block ?_)) (by kernel_rfl) ?_
          refine xp_pure (i := 0) rfl (by kernel_rfl) (by kernel_rfl) rfl rfl rfl (pv_move (v := .pointer _) rfl rfl) ?_
          refine xp_pure (i := 1) rfl (by kernel_rfl) (by kernel_rfl) rfl rfl rfl (pv_move (v := .pointer _) rfl rfl) ?_
          refine xp_pure (i := 2) rfl (by kernel_rfl) (by kernel_rfl) rfl rfl rfl (pv_nilCheck_p rfl rfl) ?_
          refine xp_pure (i := 3) rfl (by kernel_rfl) (by kernel_rfl) rfl rfl rfl (pv_fieldAddr rfl rfl) ?_
          refine xp_light (i := 4) rfl (by kernel_rfl) (by kernel_rfl) rfl rfl rfl (lv_load (v := .slice _ _ _) rfl rfl (ld_blk mp rfl)) ?_
          refine xp_light (i := 5) rfl (by kernel_rfl) (by kernel_rfl) rfl rfl rfl (lv_load (v := .agg _) rfl rfl (ld_blk_a m0_0 rfl rfl)) ?_
          refine xp_heavy (i := 6) (by kernel_rfl) ?_
          refine xph_val rfl rfl rfl rfl (hv_buildSlice (cs := [.int _ _, .int _ _, .int _ _, .int _ _]) rfl rfl rfl rfl rfl) (pd (by kernel_rfl) (pk (by kernel_rfl) pn)) ?_
          rintro v11_6 H11_6 ⟨b11_6, rfl, hN11_6⟩
          have gb11_6 := hX.fresh hN11_6
          have nmp_11_6 := mp.apart hN11_6
          have pm11_6_ho := ho.apartN hN11_6
          have nhm_11_6 := hm.apart hN11_6
          have nm0_0_11_6 := m0_0.apart hN11_6
          have mp := mp.ext hN11_6.ext
          have ho := ho.ext hN11_6.ext
          have hm := hm.ext hN11_6.ext
          have m0_0 := m0_0.ext hN11_6.ext
          have hX := hX.transE hN11_6.ext
          have m11_6 := hN11_6.blk
          refine ⟨(okc (lv_load (v := .slice _ _ _) rfl rfl (ld_blk mp rfl)) okn), ?_⟩
          refine xp_heavy (i := 7) (by kernel_rfl) ?_
          refine xph_val rfl rfl rfl rfl (hv_append rfl rfl ho rfl m11_6.row rfl (by simp [Value.oneCell']) rfl (by decide) (by first | omega | decide) (by first | omega | decide) (Nat.le_trans hg.base (Nat.le_of_lt mp.lt))) (pd (by kernel_rfl) pn) ?_
          rintro v11_7 H11_7 ⟨hO11_7, hG11_7, -, hB11_7⟩
          have hsz := hX.size
          have mp := mp.offT ho hG11_7 rfl
          have hm := hm.grow ho hG11_7
          have hX := hX.grown hG11_7 (fun i hi => .inl (ft_own hi))
          obtain ⟨a11_7, c11_7, rfl⟩ := hO11_7.val
          have hgr := grown_log (p := p) (mv := (some m)) (mv' := some m) hB11_7 hsz (.inl rfl)
          refine ⟨okn, ?_⟩
          refine xp_pure (i := 8) rfl (by kernel_rfl) (by kernel_rfl) rfl rfl rfl (pv_nilCheck_p rfl rfl) ?_
          refine xp_pure (i := 9) rfl (by kernel_rfl) (by kernel_rfl) rfl rfl rfl (pv_fieldAddr rfl rfl) ?_
          refine xp_heavy (i := 10) (by kernel_rfl) ?_
          refine xph_store rfl rfl rfl (hv_store (vs := [.slice _ _ _]) rfl rfl rfl (mp) rfl (Nat.le_of_ble_eq_true rfl) rfl) pn ?_
          rintro v11_10 H11_10 ⟨hU11_10, hZ11_10⟩
          have hm := hm.off hU11_10.but ((hm.blk mp).symm)
          have hO11_7 := hO11_7.offU mp hU11_10.but (.inl rfl)
          have hX := hX.own hU11_10.but (.inl rfl)
          have mp := hU11_10.blk
          refine ⟨okn, ?_⟩
          refine xp_done (by kernel_rfl) ?_
          refine xthen_normal ?_
          refine xc_seq ?_
          refine xc_region ?_
          refine xl_pure rfl rfl rfl (pv_assign (v := .int _ _) rfl rfl) ?_
          refine xl_nil ?_
          refine xthen_normal ?_
          refine xc_ret ?_
          refine fin_ret (res1 (v := .int _ _) rfl rfl) ?_
          exact ⟨0, l ++ [[a, w, i, s]], a11_7, c11_7, some m, rfl, add_0 (fun h => h.elim (fun h => h hb1_4) (fun h => h1_12 h)) hof (by first | omega | decide), ⟨by rw [List.length_append]; exact mp, by rw [List.length_append]; simpa [fr_snoc, ints, fr] using hO11_7, ⟨hm, hg.map.2⟩, wide_snoc hg.wide rfl, by rw [List.length_append]; (try simp); (try omega), hg.base⟩, hX, hgr⟩
      · skip
        refine xl_pure rfl rfl rfl (pv_move (v := .tuple _) rfl rfl) ?_
        refine xl_pure rfl rfl rfl (pv_extract (v := .agg _) rfl rfl rfl) ?_
        refine xl_pure rfl rfl rfl (pv_extract (v := .bool _) rfl rfl rfl) ?_
        refine xl_heavy rfl rfl rfl (hv_alloc rfl rfl) ?_
        rintro v3_9 H3_9 ⟨b3_9, rfl, hN3_9⟩
        have gb3_9 := hX.fresh hN3_9
        have gb3_9_hE0 := hE0.fresh hN3_9
        have nmp_3_9 := mp.apart hN3_9
        have pm3_9_ho := ho.apartN hN3_9
        have nhm_3_9 := hm.apart hN3_9
        have nm0_0_3_9 := m0_0.apart hN3_9
        have mp := mp.ext hN3_9.ext
        have ho := ho.ext hN3_9.ext
        have hm := hm.ext hN3_9.ext
        have m0_0 := m0_0.ext hN3_9.ext
        have hX := hX.transE hN3_9.ext
        have hE0 := hE0.trans hN3_9.ext
        have m3_9 := hN3_9.blk
        refine xl_store rfl rfl (hv_storeA (vs := ints (ofR l w i)) rfl rfl rfl (m3_9) ((List.length_map _).trans (ofR_len hg.wide)) (by rfl) (ints_one _)) ?_
        rintro v3_10 H3_10 ⟨hU3_10, hZ3_10⟩
        have hE0 := hE0.upd hU3_10.but gb3_9_hE0
        have mp := mp.off hU3_10.but (nmp_3_9)
        have ho := ho.offU m3_9 hU3_10.but (.inr pm3_9_ho)
        have hm := hm.off hU3_10.but (nhm_3_9)
        have m0_0 := m0_0.off hU3_10.but (nm0_0_3_9)
        have hX := hX.upd hU3_10.but gb3_9
        have m3_9 := hU3_10.blk
        refine xl_pure rfl rfl rfl (pv_assign (v := .bool _) rfl rfl) ?_
        refine xl_nil ?_
        refine xthen_normal ?_
        refine xc_seq ?_
        refine xc_region ?_
        refine xl_pure rfl rfl rfl (pv_move (v := .bool _) rfl rfl) ?_
        refine xl_nil ?_
        refine xthen_normal ?_
        refine xc_cond_t rfl ?_
        refine xc_seq ?_
        refine xc_region ?_
        refine xl_pure rfl rfl rfl (pv_assign (v := .int _ _) rfl rfl) ?_
        refine xl_nil ?_
        refine xthen_normal ?_
        refine xc_ret ?_
        refine xthen_ret ?_
        refine fin_ret (res1 (v := .int _ _) rfl rfl) ?_
        exact ⟨9, l, va, vc, (some m), rfl, add_9 (fun h => h.elim (fun h => h hb1_4) (fun h => h1_12 h)) hof, hg.ext hE0, hX, Grown.refl _ _⟩

theorem c8 {O : Outer} {H : Heap} {B p vc : Nat} {va : Option Addr} {mv : Option Nat} {l : List (List Int)} (hg : LogAt H B p va vc mv l) (a w i s : Int) : FnC Try.prog 8 #[.pointer (some ⟨p, 0, none⟩), .agg #[.int .i64 a, .int .i64 w, .int .i64 i, .int .i64 s]] O H (fun v H' => ∃ e l' va' vc' mv', v = .int .i64 e ∧ addL l a w i s = (e, l') ∧ LogAt H' B p va' vc' mv' l' ∧ KeepF (Ft p va mv) H H' ∧ Grown (Ft p va mv) (Ft p va' mv') H) := by
  cases mv with
  | none => exact c8n hg a w i s
  | some m => exact c8m hg a w i s
theorem c8r {O : Outer} {H : Heap} {B p vc : Nat} {va : Option Addr} {mv : Option Nat} {l : List (List Int)} (hg : LogAt H B p va vc mv l) (r : List Int) (hr : r.length = 4) : FnC Try.prog 8 #[.pointer (some ⟨p, 0, none⟩), .agg (ints r).toArray] O H (fun v H' => ∃ e l' va' vc' mv', v = .int .i64 e ∧ addR l r = (e, l') ∧ LogAt H' B p va' vc' mv' l' ∧ KeepF (Ft p va mv) H H' ∧ Grown (Ft p va mv) (Ft p va' mv') H) := by
  match r, hr with
  | [a, w, i, s], _ => exact c8 hg a w i s

theorem c80 {O : Outer} {H : Heap} (a w i s : Int) :
    FnC Try.prog 8 #[.pointer none, .agg #[.int .i64 a, .int .i64 w, .int .i64 i, .int .i64 s]] O H (fun v H' => v = .int .i64 1 ∧ Ext H H') := by
  refine fn_enter (A := [.pointer none, .agg #[.int .i64 a, .int .i64 w, .int .i64 i, .int .i64 s]]) Try.func8 rfl rfl ?_
  have hX := Ext.refl H
  refine xc_seq ?_
  refine xc_region ?_
  refine xl_heavy rfl rfl rfl (hv_box rfl rfl) ?_
  rintro v0_0 H0_0 ⟨b0_0, rfl, hN0_0⟩
  have gb0_0 := hX.fresh hN0_0
  have hX := hX.trans hN0_0.ext
  have m0_0 := hN0_0.blk
  refine xl_pure rfl rfl rfl (pv_assign (v := .int _ _) rfl rfl) ?_
  refine xl_nil ?_
  refine xthen_normal ?_
  refine xc_seq ?_
  refine xc_seq ?_
  refine xp_start rfl (by repeat (first | with_reducible exact np_fin | with_reducible refine np_then ?_ | with_reducible refine np_block ?_)) (by kernel_rfl) ?_
  refine xp_pure (i := 0) rfl (by kernel_rfl) (by kernel_rfl) rfl rfl rfl (pv_move (v := .pointer _) rfl rfl) ?_
  refine xp_pure (i := 1) rfl (by kernel_rfl) (by kernel_rfl) rfl rfl rfl (pv_eql_nn rfl rfl rfl) ?_
  refine xp_pure (i := 2) rfl (by kernel_rfl) (by kernel_rfl) rfl rfl rfl (pv_move (v := .bool _) rfl rfl) ?_
  refine xp_skip (i := 3) rfl (by kernel_rfl) (by kernel_rfl) rfl rfl rfl ?_
  refine xp_skip (i := 4) rfl (by kernel_rfl) (by kernel_rfl) rfl rfl rfl ?_
  refine xp_skip (i := 5) rfl (by kernel_rfl) (by kernel_rfl) rfl rfl rfl ?_
  refine xp_pure (i := 6) rfl (by kernel_rfl) (by kernel_rfl) rfl rfl rfl (pv_pick_t (v := .bool _) rfl rfl rfl) ?_
  refine xp_pure (i := 7) rfl (by kernel_rfl) (by kernel_rfl) rfl rfl rfl (pv_move (v := .bool _) rfl rfl) ?_
  refine xp_skip (i := 8) rfl (by kernel_rfl) (by kernel_rfl) rfl rfl rfl ?_
  refine xp_skip (i := 9) rfl (by kernel_rfl) (by kernel_rfl) rfl rfl rfl ?_
  refine xp_skip (i := 10) rfl (by kernel_rfl) (by kernel_rfl) rfl rfl rfl ?_
  refine xp_skip (i := 11) rfl (by kernel_rfl) (by kernel_rfl) rfl rfl rfl ?_
  refine xp_skip (i := 12) rfl (by kernel_rfl) (by kernel_rfl) rfl rfl rfl ?_
  refine xp_pure (i := 13) rfl (by kernel_rfl) (by kernel_rfl) rfl rfl rfl (pv_pick_t (v := .bool _) rfl rfl rfl) ?_
  refine xp_done (by kernel_rfl) ?_
  refine xthen_normal ?_
  refine xc_cond_t rfl ?_
  refine xc_seq ?_
  refine xc_region ?_
  refine xl_pure rfl rfl rfl (pv_assign (v := .int _ _) rfl rfl) ?_
  refine xl_nil ?_
  refine xthen_normal ?_
  refine xc_ret ?_
  refine xthen_ret ?_
  refine fin_ret (res1 (v := .int _ _) rfl rfl) ?_
  exact ⟨rfl, hX⟩

theorem c14r {O : Outer} {H : Heap} (l : List (List Int)) (la : Option Addr) (lc : Nat) (hR : Rows H la 4 l) (hl : l.length ≤ 128) (hz : la = none → lc = 0) (r : List Int) (hr : r.length = 4) :
    FnC Try.prog 14 #[.slice la (List.length l) lc, .agg (ints r).toArray] O H (fun v H' => ∃ e x a' c', v = .tuple #[.slice a' (List.length x) c', .int .i64 e] ∧ addR l r = (e, x) ∧ Rows H' a' 4 x ∧ x.length ≤ 128 ∧ (a' = none → c' = 0) ∧ (a' = la ∧ x = l ∨ NewA H a') ∧ Ext H H') := by
  match r, hr with
  | [a, w, i, s], _ => exact c14 l la lc hR hl hz a w i s
end Go.XG
