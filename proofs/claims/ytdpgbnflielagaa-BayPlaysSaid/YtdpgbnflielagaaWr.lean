/-
  Walks of the seat's functions over the logic XG: each function, what it computes. Printed by a program out of wip/walks.py.
-/
import Derived.Test.YtdpgbnflielagaaI
import Derived.Test.YtdpgbnflielagaaN
import Derived.Test.YtdpgbnflielagaaDm
import Derived.Test.YtdpgbnflielagaaWa
import Derived.Test.YtdpgbnflielagaaWb
import Derived.Test.YtdpgbnflielagaaWc
import Derived.Test.YtdpgbnflielagaaWd
import Derived.Test.YtdpgbnflielagaaWe
import Derived.Test.YtdpgbnflielagaaWf
import Derived.Test.YtdpgbnflielagaaWg
import Derived.Test.YtdpgbnflielagaaWh
import Derived.Test.YtdpgbnflielagaaWi
import Derived.Test.YtdpgbnflielagaaWj
import Derived.Test.YtdpgbnflielagaaWk
import Derived.Test.YtdpgbnflielagaaWl
import Derived.Test.YtdpgbnflielagaaWm
import Derived.Test.YtdpgbnflielagaaWo
import Derived.Test.YtdpgbnflielagaaWp
import Derived.Test.YtdpgbnflielagaaWq
namespace Go.XG
open Go.Proofs
set_option maxRecDepth 4000
set_option maxHeartbeats 4000000
theorem dwhere {O : Outer} {H : Heap} {la xa : Option Addr} {lc xc : Nat} {l : List (List Int)} {S : List Sd} {f : Fn} {G : Nat → Prop} {B : Nat} (hs : Rows H la 4 l) (hN : sls l = S.map Sd.sl) (hx : LX B H G xa xc (S.map lnS)) (hI : IV S f) (j : Int) :
    FnC Try.prog 35 #[.agg #[.slice la l.length lc, .slice xa S.length xc], .int .i64 j] O H (fun v H' => v = whV S f j ∧ Ext H H') := by
  have hx0 := hx
  obtain ⟨E, hEm, hE, hEc⟩ := hx
  have hEl : E.length = S.length := by have := congrArg List.length hEm; rwa [List.length_map, List.length_map] at this
  obtain ⟨gx, ox, hdx⟩ := hE.at'
  have h16 := hI.gs.1
  have hll := sls_S hN
  refine fn_enter (A := [.agg #[.slice la l.length lc, .slice xa S.length xc], .int .i64 j]) Try.func35 rfl rfl ?_
  have hX := Ext.refl H
  refine xc_seq ?_
  refine xc_region ?_
  refine xl_heavy rfl rfl rfl (hv_box rfl rfl) ?_
  rintro v0_0 H0_0 ⟨b0_0, rfl, hN0_0⟩
  have gb0_0 := hX.fresh hN0_0
  have hX := hX.trans hN0_0.ext
  have m0_0 := hN0_0.blk
  refine xl_pure rfl rfl rfl (pv_assign (v := .int _ _) rfl rfl) ?_
  refine xl_pure rfl rfl rfl (pv_assign (v := .int _ _) rfl rfl) ?_
  refine xl_pure rfl rfl rfl (pv_assign (v := .int _ _) rfl rfl) ?_
  refine xl_pure rfl rfl rfl (pv_assign (v := .int _ _) rfl rfl) ?_
  refine xl_nil ?_
  refine xthen_normal ?_
  refine xc_seq ?_
  refine xc_region ?_
  refine xl_light rfl rfl rfl (lv_load (v := .agg _) rfl rfl (ld_blk_a m0_0 rfl rfl)) ?_
  refine xl_pure rfl rfl rfl (pv_move (v := .int _ _) rfl rfl) ?_
  refine xl_heavy rfl rfl rfl (hv_call (g := 44) rfl rfl (dfind (la := la) (lc := lc) (l := l) (hx0.ext hX) hI j) rfl) ?_
  rintro v1_2 H1_2 ⟨hv1_2, hE1_2⟩
  have m0_0 := m0_0.ext hE1_2
  have hX := hX.trans hE1_2
  rcases hof : f j with _ | r
  · skip
    rw [hof] at hv1_2
    replace hv1_2 : v1_2 = .int .i64 (-1) := hv1_2
    subst hv1_2
    refine xl_pure rfl rfl rfl (pv_assign (v := .int _ _) rfl rfl) ?_
    refine xl_nil ?_
    refine xthen_normal ?_
    refine xc_seq ?_
    refine xc_seq ?_
    refine xc_region ?_
    refine xl_pure rfl rfl rfl (pv_move (v := .int _ _) rfl rfl) ?_
    refine xl_dec rfl rfl rfl (pv_lss rfl rfl rfl) (fun h2_1 => ?_) (fun h2_1 => ?_)
    · first
      | (exfalso; omega)
      |  (skip
          refine xl_nil ?_
          refine xthen_normal ?_
          refine xc_cond_t rfl ?_
          refine xc_seq ?_
          refine xc_region ?_
          refine xl_pure rfl rfl rfl (pv_assign (v := .int _ _) rfl rfl) ?_
          refine xl_pure rfl rfl rfl (pv_assign (v := .int _ _) rfl rfl) ?_
          refine xl_pure rfl rfl rfl (pv_assign (v := .int _ _) rfl rfl) ?_
          refine xl_pure rfl rfl rfl (pv_assign (v := .int _ _) rfl rfl) ?_
          refine xl_nil ?_
          refine xthen_normal ?_
          refine xc_ret ?_
          refine xthen_ret ?_
          refine fin_ret (resv4 rfl (rv_t (v := .int _ _) rfl) (rv_t (v := .int _ _) rfl) (rv_t (v := .int _ _) rfl) (rv_t (v := .int _ _) rfl)) ?_
          exact ⟨by unfold whV; rw [hof]; rfl, hX⟩)
    · exact absurd (by decide) h2_1
  · skip
    rw [hof] at hv1_2
    replace hv1_2 : v1_2 = .int .i64 r := hv1_2
    subst hv1_2
    obtain ⟨k, rfl, hk⟩ := hI.fm' j _ hof
    obtain ⟨hg1, hg2⟩ := ln_gs hEm (k := k) (by omega)
    have hgd := hI.gd hk
    refine xl_pure rfl rfl rfl (pv_assign (v := .int _ _) rfl rfl) ?_
    refine xl_nil ?_
    refine xthen_normal ?_
    refine xc_seq ?_
    refine xc_seq ?_
    refine xc_region ?_
    refine xl_pure rfl rfl rfl (pv_move (v := .int _ _) rfl rfl) ?_
    refine xl_dec rfl rfl rfl (pv_lss rfl rfl rfl) (fun h2_1 => ?_) (fun h2_1 => ?_)
    · first
      | (exfalso; omega)
      |  (skip
          refine xl_nil ?_
          refine xthen_normal ?_
          refine xc_cond_t rfl ?_
          refine xc_seq ?_
          refine xc_region ?_
          refine xl_pure rfl rfl rfl (pv_assign (v := .int _ _) rfl rfl) ?_
          refine xl_pure rfl rfl rfl (pv_assign (v := .int _ _) rfl rfl) ?_
          refine xl_pure rfl rfl rfl (pv_assign (v := .int _ _) rfl rfl) ?_
          refine xl_pure rfl rfl rfl (pv_assign (v := .int _ _) rfl rfl) ?_
          refine xl_nil ?_
          refine xthen_normal ?_
          refine xc_ret ?_
          refine xthen_ret ?_
          refine fin_ret (resv4 rfl (rv_t (v := .int _ _) rfl) (rv_t (v := .int _ _) rfl) (rv_t (v := .int _ _) rfl) (rv_t (v := .int _ _) rfl)) ?_
          exact ⟨by unfold whV; rw [hof]; rfl, hX⟩)
    · first
      | (exfalso; omega)
      |  (skip
          refine xl_nil ?_
          refine xthen_normal ?_
          refine xc_cond_f rfl ?_
          refine xc_skip ?_
          refine xthen_normal ?_
          refine xc_seq ?_
          obtain ⟨nw1, nw2⟩ : (gE E k).wt.length ≤ 8 ∧ (gE E k).wt.length < 1000000 := by have := hgd.w8; rw [hg2]; omega
          obtain ⟨gw, ow, hdw⟩ := (hE.get (k := k) (by omega)).2.ints.at'
          refine xc_region ?_
          refine xl_pure rfl rfl rfl (pv_assign (v := .int _ _) rfl rfl) ?_
          refine xl_nil ?_
          refine xthen_normal ?_
          refine xc_seq ?_
          refine xc_seq ?_
          refine xc_region ?_
          refine xl_pure rfl rfl rfl (pv_assign (v := .int _ _) rfl rfl) ?_
          refine xl_nil ?_
          refine xthen_normal ?_
          refine xc_block ?_
          refine xc_loop (τ := Nat × Int) (fun t => [(1, .int .i64 j), (2, .pointer (some ⟨b0_0, 0, none⟩)), (8, .int .i64 (k : Nat)), (9, .int .i64 t.2), (10, .int .i64 (t.1 : Nat))]) (fun t H' => (t.1 ≤ (gE E k).wt.length) ∧ (WHI (gE E k).wt j t.1 t.2) ∧ (Blk H' b0_0 [.slice la l.length lc, .slice xa S.length xc] 45) ∧ (Ext H H')) (fun t H' => (gE E k).wt.length - t.1) (0, (-1)) ?_ ?_ ?_
          · exact ⟨rfl, rfl, rfl, rfl, rfl, trivial⟩
          · skip
            exact ⟨Nat.zero_le _, .inl ⟨rfl, fun n h => absurd h (Nat.not_lt_zero _)⟩, m0_0, hX⟩
          · intro σ
            clear hX m0_0
            rintro ⟨i, ah⟩ Hl6 ⟨hi, ha, m0_0, hX⟩
            replace hi : i ≤ (gE E k).wt.length := hi
            replace ha : WHI (gE E k).wt j i ah := ha
            replace m0_0 : Blk Hl6 b0_0 [.slice la l.length lc, .slice xa S.length xc] 45 := m0_0
            replace hX : Ext H Hl6 := hX
            show XC _ _ _ (upds σ [(1, .int .i64 j), (2, .pointer (some ⟨b0_0, 0, none⟩)), (8, .int .i64 (k : Nat)), (9, .int .i64 ah), (10, .int .i64 (i : Nat))]) _
            refine xc_seq ?_
            refine xc_seq ?_
            refine xc_region ?_
            refine xl_pure rfl rfl rfl (pv_move (v := .int _ _) rfl rfl) ?_
            refine xl_pure rfl rfl rfl (pv_fieldAddr rfl rfl) ?_
            refine xl_light rfl rfl rfl (lv_load (v := .slice _ _ _) rfl rfl (ld_blk m0_0 rfl)) ?_
            refine xl_pure rfl rfl rfl (pv_move (v := .int _ _) rfl rfl) ?_
            refine xl_pure rfl rfl rfl (pv_indexAddr_l rfl (sl_eq (hdx (by omega)).1) rfl (by omega)) ?_
            refine xl_pure rfl rfl rfl (pv_fieldAddr rfl rfl) ?_
            refine xl_light rfl rfl rfl (lv_load (v := .slice _ _ _) rfl rfl (by exact ldL (k := k) ((hdx (by omega)).2.ext hX) (by omega) 1 rfl)) ?_
            refine xl_pure rfl rfl rfl (pv_len_l rfl rfl) ?_
            refine xl_dec rfl rfl rfl (pv_lss rfl rfl rfl) (fun h6_8 => ?_) (fun h6_8 => ?_)
            · skip
              refine xl_nil ?_
              refine xthen_normal ?_
              refine xc_cond_t rfl ?_
              refine xc_skip ?_
              refine xthen_normal ?_
              refine xc_seq ?_
              refine xc_block ?_
              refine xc_seq ?_
              refine xc_region ?_
              refine xl_pure rfl rfl rfl (pv_fieldAddr rfl rfl) ?_
              refine xl_light rfl rfl rfl (lv_load (v := .slice _ _ _) rfl rfl (ld_blk m0_0 rfl)) ?_
              refine xl_pure rfl rfl rfl (pv_move (v := .int _ _) rfl rfl) ?_
              refine xl_pure rfl rfl rfl (pv_indexAddr_l rfl (sl_eq (hdx (by omega)).1) rfl (by omega)) ?_
              refine xl_pure rfl rfl rfl (pv_fieldAddr rfl rfl) ?_
              refine xl_light rfl rfl rfl (lv_load (v := .slice _ _ _) rfl rfl (by exact ldL (k := k) ((hdx (by omega)).2.ext hX) (by omega) 1 rfl)) ?_
              refine xl_pure rfl rfl rfl (pv_move (v := .int _ _) rfl rfl) ?_
              refine xl_pure rfl rfl rfl (pv_indexAddr_l rfl (sl_eq (hdw (by omega)).1) rfl (by omega)) ?_
              refine xl_light rfl rfl rfl (lv_load (v := .int _ _) rfl rfl (by exact ld_nth (k := i) ((hdw (by omega)).2.ext hX) (by omega))) ?_
              refine xl_pure rfl rfl rfl (pv_move (v := .int _ _) rfl rfl) ?_
              refine xl_dec rfl rfl rfl (pv_eql rfl rfl rfl) (fun h8_10 => ?_) (fun h8_10 => ?_)
              · skip
                refine xl_nil ?_
                refine xthen_normal ?_
                refine xc_cond_t rfl ?_
                refine xc_region ?_
                refine xl_pure rfl rfl rfl (pv_move (v := .int _ _) rfl rfl) ?_
                refine xl_pure rfl rfl rfl (pv_assign (v := .int _ _) rfl rfl) ?_
                refine xl_nil ?_
                refine xblock_normal ?_
                refine xthen_normal ?_
                refine xc_region ?_
                refine xl_pure rfl rfl rfl (pv_move (v := .int _ _) rfl rfl) ?_
                refine xl_pure rfl rfl rfl (pv_add rfl rfl rfl (fit_i64 (by omega))) ?_
                refine xl_pure rfl rfl rfl (pv_assign (v := .int _ _) rfl rfl) ?_
                refine xl_nil ?_
                refine xthen_normal ?_
                first
                  | exact ⟨(i + 1, (i : Nat)), ⟨rfl, rfl, rfl, rfl, rfl, trivial⟩, ⟨by (try simp only); omega, whi_y (by omega) h8_10, m0_0, hX⟩, by (try simp only); omega⟩
                  | exact ⟨(i + 1, ah), ⟨rfl, rfl, rfl, rfl, rfl, trivial⟩, ⟨by (try simp only); omega, whi_n ha h8_10, m0_0, hX⟩, by (try simp only); omega⟩
              · skip
                refine xl_nil ?_
                refine xthen_normal ?_
                refine xc_cond_f rfl ?_
                refine xc_skip ?_
                refine xblock_normal ?_
                refine xthen_normal ?_
                refine xc_region ?_
                refine xl_pure rfl rfl rfl (pv_move (v := .int _ _) rfl rfl) ?_
                refine xl_pure rfl rfl rfl (pv_add rfl rfl rfl (fit_i64 (by omega))) ?_
                refine xl_pure rfl rfl rfl (pv_assign (v := .int _ _) rfl rfl) ?_
                refine xl_nil ?_
                refine xthen_normal ?_
                first
                  | exact ⟨(i + 1, (i : Nat)), ⟨rfl, rfl, rfl, rfl, rfl, trivial⟩, ⟨by (try simp only); omega, whi_y (by omega) h8_10, m0_0, hX⟩, by (try simp only); omega⟩
                  | exact ⟨(i + 1, ah), ⟨rfl, rfl, rfl, rfl, rfl, trivial⟩, ⟨by (try simp only); omega, whi_n ha h8_10, m0_0, hX⟩, by (try simp only); omega⟩
            · skip
              refine xl_nil ?_
              refine xthen_normal ?_
              refine xc_cond_f rfl ?_
              refine xc_exit ?_
              refine xthen_exit ?_
              refine xthen_exit ?_
              refine xblock_same ?_
              refine xthen_normal ?_
              refine xc_seq ?_
              refine xc_region ?_
              refine xl_pure rfl rfl rfl (pv_move (v := .int _ _) rfl rfl) ?_
              refine xl_pure rfl rfl rfl (pv_quov (r := ((k / 2 : Nat) : Int)) rfl rfl rfl (by decide) (quo2 (by omega))) ?_
              refine xl_pure rfl rfl rfl (pv_add rfl rfl rfl (fit_i64 (by omega))) ?_
              refine xl_pure rfl rfl rfl (pv_move (v := .int _ _) rfl rfl) ?_
              refine xl_pure rfl rfl rfl (pv_remv (r := ((k % 2 : Nat) : Int)) rfl rfl rfl (by decide) rem2) ?_
              refine xl_pure rfl rfl rfl (pv_move (v := .int _ _) rfl rfl) ?_
              refine xl_pure rfl rfl rfl (pv_assign (v := .int _ _) rfl rfl) ?_
              refine xl_pure rfl rfl rfl (pv_assign (v := .int _ _) rfl rfl) ?_
              refine xl_pure rfl rfl rfl (pv_assign (v := .int _ _) rfl rfl) ?_
              refine xl_pure rfl rfl rfl (pv_assign (v := .int _ _) rfl rfl) ?_
              refine xl_nil ?_
              refine xthen_normal ?_
              refine xc_ret ?_
              refine fin_ret (resv4 rfl (rv_t (v := .int _ _) rfl) (rv_t (v := .int _ _) rfl) (rv_t (v := .int _ _) rfl) (rv_t (v := .int _ _) rfl)) ?_
              have e1 := whi_end (show (gE E k).wt.Nodup by rw [hg2]; exact hgd.wn) (show i = (gE E k).wt.length by omega) ha
              refine ⟨?_, hX⟩
              unfold whV
              rw [if_pos (show (f j).isSome = true by rw [hof]; rfl), levK_of hof, e1, hg2])

theorem dfree {O : Outer} {H : Heap} {la xa : Option Addr} {lc xc : Nat} {l : List (List Int)} {S : List Sd} {f : Fn} {G : Nat → Prop} {B : Nat} (hs : Rows H la 4 l) (hN : sls l = S.map Sd.sl) (hx : LX B H G xa xc (S.map lnS)) (hI : IV S f) (b o : Int) :
    FnC Try.prog 36 #[.agg #[.slice la l.length lc, .slice xa S.length xc], .int .i64 b, .int .i64 o] O H (fun v H' => v = freV S b o ∧ Ext H H') := by
  have hx0 := hx
  obtain ⟨E, hEm, hE, hEc⟩ := hx
  have hEl : E.length = S.length := by have := congrArg List.length hEm; rwa [List.length_map, List.length_map] at this
  obtain ⟨gx, ox, hdx⟩ := hE.at'
  have h16 := hI.gs.1
  have hll := sls_S hN
  refine fn_enter (A := [.agg #[.slice la l.length lc, .slice xa S.length xc], .int .i64 b, .int .i64 o]) Try.func36 rfl rfl ?_
  have hX := Ext.refl H
  refine xc_seq ?_
  refine xc_region ?_
  refine xl_heavy rfl rfl rfl (hv_box rfl rfl) ?_
  rintro v0_0 H0_0 ⟨b0_0, rfl, hN0_0⟩
  have gb0_0 := hX.fresh hN0_0
  have hX := hX.trans hN0_0.ext
  have m0_0 := hN0_0.blk
  refine xl_pure rfl rfl rfl (pv_assign (v := .int _ _) rfl rfl) ?_
  refine xl_pure rfl rfl rfl (pv_assign (v := .int _ _) rfl rfl) ?_
  refine xl_nil ?_
  refine xthen_normal ?_
  refine xc_seq ?_
  refine xc_region ?_
  refine xl_light rfl rfl rfl (lv_load (v := .agg _) rfl rfl (ld_blk_a m0_0 rfl rfl)) ?_
  refine xl_pure rfl rfl rfl (pv_move (v := .int _ _) rfl rfl) ?_
  refine xl_pure rfl rfl rfl (pv_move (v := .int _ _) rfl rfl) ?_
  refine xl_heavy rfl rfl rfl (hv_call (g := 43) rfl rfl (dline (show l.length ≤ 8 by omega) b o) rfl) ?_
  rintro v1_3 H1_3 ⟨hv1_3, hE1_3⟩
  have m0_0 := m0_0.ext hE1_3
  have hX := hX.trans hE1_3
  rcases hv1_3 with ⟨hi1_3, rfl⟩ | ⟨hi1_3, rfl⟩
  · skip
    obtain ⟨hk, hkv⟩ := inP_k hi1_3
    rw [← hll] at hk hi1_3
    obtain ⟨hg1, hg2⟩ := ln_gs hEm (k := kP b o) (by omega)
    have hgd := hI.gd hk
    refine xl_pure rfl rfl rfl (pv_assign (v := .int _ _) rfl rfl) ?_
    refine xl_nil ?_
    refine xthen_normal ?_
    refine xc_seq ?_
    refine xc_seq ?_
    refine xc_region ?_
    refine xl_pure rfl rfl rfl (pv_move (v := .int _ _) rfl rfl) ?_
    refine xl_dec rfl rfl rfl (pv_lss rfl rfl rfl) (fun h2_1 => ?_) (fun h2_1 => ?_)
    · first
      | (exfalso; omega)
      |  (skip
          refine xl_nil ?_
          refine xthen_normal ?_
          refine xc_cond_t rfl ?_
          refine xc_seq ?_
          refine xc_region ?_
          refine xl_pure rfl rfl rfl (pv_assign (v := .int _ _) rfl rfl) ?_
          refine xl_pure rfl rfl rfl (pv_assign (v := .int _ _) rfl rfl) ?_
          refine xl_nil ?_
          refine xthen_normal ?_
          refine xc_ret ?_
          refine xthen_ret ?_
          refine fin_ret (res2 (v := .int _ _) (x := .int _ _) rfl rfl rfl) ?_
          exact ⟨by unfold freV; rw [if_neg hi1_3], hX⟩)
    · first
      | (exfalso; omega)
      |  (skip
          refine xl_nil ?_
          refine xthen_normal ?_
          refine xc_cond_f rfl ?_
          refine xc_skip ?_
          refine xthen_normal ?_
          refine xc_seq ?_
          refine xp_start rfl (by repeat (first | with_reducible exact np_fin | with_reducible exact np_ret | with_reducible refine np_then ?_ | with_reducible refine np_block ?_)) (by kernel_rfl) ?_
          refine xp_light (i := 0) rfl (by kernel_rfl) (by kernel_rfl) rfl rfl rfl (lv_load (v := .agg _) rfl rfl (ld_blk_a m0_0 rfl rfl)) ?_
          refine xp_pure (i := 1) rfl (by kernel_rfl) (by kernel_rfl) rfl rfl rfl (pv_move (v := .int _ _) rfl rfl) ?_
          refine xp_pure (i := 3) rfl (by kernel_rfl) (by kernel_rfl) rfl rfl rfl (pv_fieldAddr rfl rfl) ?_
          refine xp_light (i := 4) rfl (by kernel_rfl) (by kernel_rfl) rfl rfl rfl (lv_load (v := .slice _ _ _) rfl rfl (ld_blk m0_0 rfl)) ?_
          refine xp_pure (i := 5) rfl (by kernel_rfl) (by kernel_rfl) rfl rfl rfl (pv_move (v := .int _ _) rfl rfl) ?_
          refine xp_pure (i := 6) rfl (by kernel_rfl) (by kernel_rfl) rfl rfl rfl (pv_indexAddr_l rfl (sl_eq (hdx (by omega)).1) rfl (by omega)) ?_
          refine xp_pure (i := 7) rfl (by kernel_rfl) (by kernel_rfl) rfl rfl rfl (pv_fieldAddr rfl rfl) ?_
          refine xp_light (i := 8) rfl (by kernel_rfl) (by kernel_rfl) rfl rfl rfl (lv_load (v := .slice _ _ _) rfl rfl (by exact ldL (k := kP b o) ((hdx (by omega)).2.ext hX) (by omega) 0 rfl)) ?_
          refine xp_pure (i := 9) rfl (by kernel_rfl) (by kernel_rfl) rfl rfl rfl (pv_len_l rfl rfl) ?_
          refine xp_heavy (i := 2) (by kernel_rfl) ?_
          refine xph_val rfl rfl rfl rfl (hv_call (g := 38) rfl rfl (dslots (hs.ext hX) (show kP b o < 2 * l.length by omega) (show l.length ≤ 8 by omega)) rfl) (pk (by kernel_rfl) (pk (by kernel_rfl) (pd (by kernel_rfl) pn))) ?_
          rintro v4_2 H4_2 ⟨hv4_2, hE4_2⟩
          have m0_0 := m0_0.ext hE4_2
          have hX := hX.trans hE4_2
          rw [sls_gs hN] at hv4_2
          subst hv4_2
          refine ⟨(okc (lv_load (v := .slice _ _ _) rfl rfl (by exact ldL (k := kP b o) ((hdx (by omega)).2.ext hX) (by omega) 0 rfl)) (okc (lv_load (v := .slice _ _ _) rfl rfl (ld_blk m0_0 rfl)) okn)), ?_⟩
          refine xp_pure (i := 10) rfl (by kernel_rfl) (by kernel_rfl) rfl rfl rfl (pv_sub rfl rfl rfl (fit_i64 (by have := hgd.r8; have := hgd.s0; have := hgd.s8; rw [hg1]; omega))) ?_
          refine xp_pure (i := 11) rfl (by kernel_rfl) (by kernel_rfl) rfl rfl rfl (pv_assign (v := .int _ _) rfl rfl) ?_
          refine xp_pure (i := 12) rfl (by kernel_rfl) (by kernel_rfl) rfl rfl rfl (pv_assign (v := .int _ _) rfl rfl) ?_
          refine xp_done (by kernel_rfl) ?_
          refine xthen_normal ?_
          refine xc_ret ?_
          refine fin_ret (res2 (v := .int _ _) (x := .int _ _) rfl rfl rfl) ?_
          exact ⟨by unfold freV; rw [if_pos hi1_3, hg1], hX⟩)
  · skip
    rw [← hll] at hi1_3
    refine xl_pure rfl rfl rfl (pv_assign (v := .int _ _) rfl rfl) ?_
    refine xl_nil ?_
    refine xthen_normal ?_
    refine xc_seq ?_
    refine xc_seq ?_
    refine xc_region ?_
    refine xl_pure rfl rfl rfl (pv_move (v := .int _ _) rfl rfl) ?_
    refine xl_dec rfl rfl rfl (pv_lss rfl rfl rfl) (fun h2_1 => ?_) (fun h2_1 => ?_)
    · first
      | (exfalso; omega)
      |  (skip
          refine xl_nil ?_
          refine xthen_normal ?_
          refine xc_cond_t rfl ?_
          refine xc_seq ?_
          refine xc_region ?_
          refine xl_pure rfl rfl rfl (pv_assign (v := .int _ _) rfl rfl) ?_
          refine xl_pure rfl rfl rfl (pv_assign (v := .int _ _) rfl rfl) ?_
          refine xl_nil ?_
          refine xthen_normal ?_
          refine xc_ret ?_
          refine xthen_ret ?_
          refine fin_ret (res2 (v := .int _ _) (x := .int _ _) rfl rfl rfl) ?_
          exact ⟨by unfold freV; rw [if_neg hi1_3], hX⟩)
    · exact absurd (by decide) h2_1
end Go.XG
