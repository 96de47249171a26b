/-
  Walks of the seat's functions over the logic XG: each function, what it computes. Printed by a program out of wip/walks.py.
-/
import Derived.Test.YtdpgbnflielagaaI
import Derived.Test.YtdpgbnflielagaaN
import Derived.Test.YtdpgbnflielagaaDl
import Derived.Test.YtdpgbnflielagaaWa
import Derived.Test.YtdpgbnflielagaaWb
import Derived.Test.YtdpgbnflielagaaWc
import Derived.Test.YtdpgbnflielagaaWd
import Derived.Test.YtdpgbnflielagaaWe
import Derived.Test.YtdpgbnflielagaaWf
import Derived.Test.YtdpgbnflielagaaWg
import Derived.Test.YtdpgbnflielagaaWh
import Derived.Test.YtdpgbnflielagaaWi
import Derived.Test.YtdpgbnflielagaaWj
import Derived.Test.YtdpgbnflielagaaWk
import Derived.Test.YtdpgbnflielagaaWl
import Derived.Test.YtdpgbnflielagaaWm
import Derived.Test.YtdpgbnflielagaaWo
import Derived.Test.YtdpgbnflielagaaWp
import Derived.Test.YtdpgbnflielagaaWq
import Derived.Test.YtdpgbnflielagaaWr
import Derived.Test.YtdpgbnflielagaaWs
import Derived.Test.YtdpgbnflielagaaWt
namespace Go.XG
open Go.Proofs
set_option maxRecDepth 4000
set_option maxHeartbeats 4000000
theorem dload {O : Outer} {H : Heap} {la xa : Option Addr} {lc xc : Nat} {l : List (List Int)} {E : List Se} {G : Nat → Prop} {B : Nat} (hs : Rows H la 4 l) (hl : l.length < 1000000) (hE : LE B H G xa E) (hEl : E.length < 1000000) (hEs : ∀ e ∈ E, e.rn.length < 1000000 ∧ e.wt.length < 1000000) (hG : ∀ i, G i → i < H.size) :
    FnC Try.prog 20 #[.slice la l.length lc, .slice xa E.length xc] O H (fun v H' => ((ldOk l E ∧ ∃ a' c', v = .tuple #[.agg #[.slice la l.length lc, .slice a' E.length c'], .int .i64 0] ∧ LX B H' G a' c' (E.map lnP)) ∨ (¬ ldOk l E ∧ v = .tuple #[.agg #[.slice none 0 0, .slice none 0 0], .int .i64 1])) ∧ Ext H H') := by
  obtain ⟨gx, ox, hdx⟩ := hE.at'
  refine fn_enter (A := [.slice la l.length lc, .slice xa E.length xc]) Try.func20 rfl rfl ?_
  have hX := Ext.refl H
  refine xc_seq ?_
  refine xc_region ?_
  refine xl_heavy rfl rfl rfl (hv_alloc rfl rfl) ?_
  rintro v0_0 H0_0 ⟨b0_0, rfl, hN0_0⟩
  have gb0_0 := hX.fresh hN0_0
  have hX := hX.trans hN0_0.ext
  have m0_0 := hN0_0.blk
  refine xl_pure rfl rfl rfl (pv_assign (v := .int _ _) rfl rfl) ?_
  refine xl_nil ?_
  refine xthen_normal ?_
  refine xc_seq ?_
  refine xc_seq ?_
  refine xc_region ?_
  refine xl_pure rfl rfl rfl (pv_move (v := .slice _ _ _) rfl rfl) ?_
  refine xl_heavy rfl rfl rfl (hv_call (g := 30) rfl rfl (dmay (hs.ext hX) hl) rfl) ?_
  rintro v1_1 H1_1 ⟨hv1_1, rfl⟩
  rcases hv1_1 with ⟨hi1_1, rfl⟩ | ⟨hi1_1, rfl⟩
  · skip
    refine xl_pure rfl rfl rfl (pv_not rfl rfl) ?_
    refine xl_pure rfl rfl rfl (pv_move (v := .bool _) rfl rfl) ?_
    refine xl_pure rfl rfl rfl (pv_move (v := .slice _ _ _) rfl rfl) ?_
    refine xl_pure rfl rfl rfl (pv_len_l rfl rfl) ?_
    refine xl_pure rfl rfl rfl (pv_move (v := .slice _ _ _) rfl rfl) ?_
    refine xl_pure rfl rfl rfl (pv_len_l rfl rfl) ?_
    refine xl_pure rfl rfl rfl (pv_mul rfl rfl rfl (fit_i64 (by omega))) ?_
    refine xl_ndec rfl rfl rfl (pv_neq rfl rfl rfl) (fun h1_9 => ?_) (fun h1_9 => ?_)
    · skip
      refine xl_pure rfl rfl rfl (pv_pick_f (v := .bool _) rfl rfl rfl) ?_
      refine xl_nil ?_
      refine xthen_normal ?_
      refine xc_cond_f rfl ?_
      refine xc_skip ?_
      refine xthen_normal ?_
      refine xc_seq ?_
      have h8 := hi1_1.1
      have h2l : E.length = 2 * l.length := by omega
      refine xc_region ?_
      refine xl_pure rfl rfl rfl (pv_move (v := .slice _ _ _) rfl rfl) ?_
      refine xl_pure rfl rfl rfl (pv_build_s (cs := [.slice _ _ _, .slice _ _ _]) rfl rfl rfl) ?_
      refine xl_heavy rfl rfl rfl (hv_alloc rfl rfl) ?_
      rintro v3_2 H3_2 ⟨b3_2, rfl, hN3_2⟩
      have gb3_2 := hX.fresh hN3_2
      have nm0_0_3_2 := m0_0.apart hN3_2
      have m0_0 := m0_0.ext hN3_2.ext
      have hX := hX.trans hN3_2.ext
      have m3_2 := hN3_2.blk
      refine xl_store rfl rfl (hv_storeA (vs := [.slice _ _ _, .slice _ _ _]) rfl rfl rfl (m3_2) rfl (by rfl) rfl) ?_
      rintro v3_3 H3_3 ⟨hU3_3, hZ3_3⟩
      have m0_0 := m0_0.off hU3_3.but (by first | exact nm0_0_3_2 | exact ⟨m0_0.ne m3_2 rfl⟩ | exact ⟨m0_0.ne m3_2 (by assumption)⟩ | exact ⟨Ne.symm (m3_2.ne m0_0 (by assumption))⟩)
      have hX := hX.upd hU3_3.but gb3_2
      have m3_2 := hU3_3.blk
      refine xl_nil ?_
      refine xthen_normal ?_
      refine xc_seq ?_
      refine xc_region ?_
      refine xl_pure rfl rfl rfl (pv_assign (v := .slice _ _ _) rfl rfl) ?_
      refine xl_nil ?_
      refine xthen_normal ?_
      refine xc_seq ?_
      refine xc_seq ?_
      refine xc_region ?_
      refine xl_pure rfl rfl rfl (pv_assign (v := .int _ _) rfl rfl) ?_
      refine xl_nil ?_
      refine xthen_normal ?_
      refine xc_block ?_
      refine xc_loop (τ := Nat × Option Addr × Nat × List Int × Value) (fun t => [(1, .slice xa E.length xc), (4, .pointer (some ⟨b0_0, 0, none⟩)), (6, .pointer (some ⟨b3_2, 0, none⟩)), (7, t.2.2.2.2), (8, .int .i64 (t.1 : Nat))]) (fun t H' => (t.1 ≤ E.length) ∧ (LdG l E t.1 0) ∧ (t.2.2.2.1 = jbP E t.1 0) ∧ (Blk H' b3_2 [.slice la l.length lc, .slice t.2.1 t.1 t.2.2.1] 45) ∧ (Blk H' b0_0 [.slice none 0 0, .slice none 0 0] 45) ∧ (Own H' H.size 40 2 (.slice t.2.1 t.1 t.2.2.1) (t.1) (fL (E.take t.1))) ∧ (Own H' H.size 3 1 t.2.2.2.2 t.2.2.2.1.length (ints t.2.2.2.1)) ∧ (Ext H H')) (fun t H' => E.length - t.1) (0, none, 0, [], .slice none 0 0) ?_ ?_ ?_
      · exact ⟨rfl, rfl, rfl, rfl, rfl, trivial⟩
      · skip
        exact ⟨Nat.zero_le _, ldg_0, by simp [jbP, jbE], m3_2, m0_0, by simpa [fL] using Own.nil _ H.size 40 2, Own.nil .., hX⟩
      · intro σ
        clear hX m0_0 m3_2
        rintro ⟨k, va, vc, al, vo7⟩ Hl6 ⟨hk, hg, hal, mb, m0_0, ho, hao, hX⟩
        replace hk : k ≤ E.length := hk
        replace hg : LdG l E k 0 := hg
        replace hal : al = jbP E k 0 := hal
        replace mb : Blk Hl6 b3_2 [.slice la l.length lc, .slice va k vc] 45 := mb
        replace m0_0 : Blk Hl6 b0_0 [.slice none 0 0, .slice none 0 0] 45 := m0_0
        replace ho : Own Hl6 H.size 40 2 (.slice va k vc) (k) (fL (E.take k)) := ho
        replace hao : Own Hl6 H.size 3 1 vo7 al.length (ints al) := hao
        replace hX : Ext H Hl6 := hX
        obtain ⟨va7, vc7, rfl⟩ := hao.val
        show XC _ _ _ (upds σ [(1, .slice xa E.length xc), (4, .pointer (some ⟨b0_0, 0, none⟩)), (6, .pointer (some ⟨b3_2, 0, none⟩)), (7, .slice va7 al.length vc7), (8, .int .i64 (k : Nat))]) _
        refine xc_seq ?_
        refine xc_seq ?_
        refine xc_region ?_
        refine xl_pure rfl rfl rfl (pv_move (v := .int _ _) rfl rfl) ?_
        refine xl_pure rfl rfl rfl (pv_move (v := .slice _ _ _) rfl rfl) ?_
        refine xl_pure rfl rfl rfl (pv_len_l rfl rfl) ?_
        refine xl_dec rfl rfl rfl (pv_lss rfl rfl rfl) (fun h6_3 => ?_) (fun h6_3 => ?_)
        · skip
          refine xl_nil ?_
          refine xthen_normal ?_
          refine xc_cond_t rfl ?_
          refine xc_skip ?_
          refine xthen_normal ?_
          refine xc_seq ?_
          refine xc_block ?_
          refine xc_seq ?_
          have hkE : k < E.length := by omega
          obtain ⟨hgr, hgw⟩ := hE.get (k := k) hkE
          obtain ⟨gr1, or1, hdr⟩ := hgr.ints.at'
          obtain ⟨gw1, ow1, hdw⟩ := hgw.ints.at'
          obtain ⟨hes1, hes2⟩ := hEs _ (gE_in hkE)
          obtain ⟨hs0, hs8⟩ := ok_get hi1_1 (k := k) (by omega)
          refine xp_start rfl (by repeat (first | with_reducible exact np_fin | with_reducible exact np_ret | with_reducible refine np_then ?_ | with_reducible refine np_block ?_)) (by kernel_rfl) ?_
          refine xp_pure (i := 0) rfl (by kernel_rfl) (by kernel_rfl) rfl rfl rfl (pv_move (v := .slice _ _ _) rfl rfl) ?_
          refine xp_pure (i := 1) rfl (by kernel_rfl) (by kernel_rfl) rfl rfl rfl (pv_move (v := .int _ _) rfl rfl) ?_
          refine xp_pure (i := 2) rfl (by kernel_rfl) (by kernel_rfl) rfl rfl rfl (pv_indexAddr_l rfl (sl_eq (hdx (by omega)).1) rfl (by omega)) ?_
          refine xp_pure (i := 3) rfl (by kernel_rfl) (by kernel_rfl) rfl rfl rfl (pv_fieldAddr rfl rfl) ?_
          refine xp_light (i := 4) rfl (by kernel_rfl) (by kernel_rfl) rfl rfl rfl (lv_load (v := .slice _ _ _) rfl rfl (by exact ldL (k := k) ((hdx (by omega)).2.ext hX) (by omega) 0 rfl)) ?_
          refine xp_pure (i := 5) rfl (by kernel_rfl) (by kernel_rfl) rfl rfl rfl (pv_move (v := .slice _ _ _) rfl rfl) ?_
          refine xp_pure (i := 6) rfl (by kernel_rfl) (by kernel_rfl) rfl rfl rfl (pv_move (v := .int _ _) rfl rfl) ?_
          refine xp_pure (i := 7) rfl (by kernel_rfl) (by kernel_rfl) rfl rfl rfl (pv_indexAddr_l rfl (sl_eq (hdx (by omega)).1) rfl (by omega)) ?_
          refine xp_pure (i := 8) rfl (by kernel_rfl) (by kernel_rfl) rfl rfl rfl (pv_fieldAddr rfl rfl) ?_
          refine xp_light (i := 9) rfl (by kernel_rfl) (by kernel_rfl) rfl rfl rfl (lv_load (v := .slice _ _ _) rfl rfl (by exact ldL (k := k) ((hdx (by omega)).2.ext hX) (by omega) 1 rfl)) ?_
          refine xp_pure (i := 10) rfl (by kernel_rfl) (by kernel_rfl) rfl rfl rfl (pv_assign (v := .slice _ _ _) rfl rfl) ?_
          refine xp_pure (i := 11) rfl (by kernel_rfl) (by kernel_rfl) rfl rfl rfl (pv_assign (v := .slice _ _ _) rfl rfl) ?_
          refine xp_done (by kernel_rfl) ?_
          refine xthen_normal ?_
          refine xc_cut (τ := Unit) (fun t => [(1, .slice xa E.length xc), (4, .pointer (some ⟨b0_0, 0, none⟩)), (6, .pointer (some ⟨b3_2, 0, none⟩)), (7, .slice va7 al.length vc7), (8, .int .i64 (k : Nat)), (9, .slice (gE E k).ra (gE E k).rn.length (gE E k).rc), (10, .slice (gE E k).wa (gE E k).wt.length (gE E k).wc)]) (fun t H' => (lnOk ((sls l).getD k 0) (gE E k).rn (gE E k).wt) ∧ (Blk H' b3_2 [.slice la l.length lc, .slice va k vc] 45) ∧ (Blk H' b0_0 [.slice none 0 0, .slice none 0 0] 45) ∧ (Own H' H.size 40 2 (.slice va k vc) (k) (fL (E.take k))) ∧ (Own H' H.size 3 1 (.slice va7 al.length vc7) al.length (ints al)) ∧ (Ext H H')) ?_ ?_
          · skip
            refine xc_seq ?_
            refine xc_region ?_
            refine xl_pure rfl rfl rfl (pv_move (v := .slice _ _ _) rfl rfl) ?_
            refine xl_pure rfl rfl rfl (pv_len_l rfl rfl) ?_
            refine xl_light rfl rfl rfl (lv_load (v := .agg _) rfl rfl (ld_blk_a mb rfl rfl)) ?_
            refine xl_pure rfl rfl rfl (pv_move (v := .int _ _) rfl rfl) ?_
            refine xl_heavy rfl rfl rfl (hv_call (g := 38) rfl rfl (dslots (hs.ext hX) (show k < 2 * l.length by omega) (show l.length ≤ 8 by omega)) rfl) ?_
            rintro v9_4 H9_4 ⟨rfl, hE9_4⟩
            have m0_0 := m0_0.ext hE9_4
            have mb := mb.ext hE9_4
            have ho := ho.ext hE9_4
            have hao := hao.ext hE9_4
            have hX := hX.trans hE9_4
            refine xl_dec rfl rfl rfl (pv_gtr rfl rfl rfl) (fun h9_5 => ?_) (fun h9_5 => ?_)
            · skip
              refine xl_pure rfl rfl rfl (pv_move (v := .bool _) rfl rfl) ?_
              refine xl_skip rfl rfl rfl ?_
              refine xl_skip rfl rfl rfl ?_
              refine xl_skip rfl rfl rfl ?_
              refine xl_pure rfl rfl rfl (pv_pick_t (v := .bool _) rfl rfl rfl) ?_
              refine xl_pure rfl rfl rfl (pv_move (v := .bool _) rfl rfl) ?_
              refine xl_skip rfl rfl rfl ?_
              refine xl_skip rfl rfl rfl ?_
              refine xl_skip rfl rfl rfl ?_
              refine xl_skip rfl rfl rfl ?_
              refine xl_skip rfl rfl rfl ?_
              refine xl_skip rfl rfl rfl ?_
              refine xl_skip rfl rfl rfl ?_
              refine xl_skip rfl rfl rfl ?_
              refine xl_skip rfl rfl rfl ?_
              refine xl_skip rfl rfl rfl ?_
              refine xl_skip rfl rfl rfl ?_
              refine xl_pure rfl rfl rfl (pv_pick_t (v := .bool _) rfl rfl rfl) ?_
              refine xl_pure rfl rfl rfl (pv_move (v := .bool _) rfl rfl) ?_
              refine xl_skip rfl rfl rfl ?_
              refine xl_skip rfl rfl rfl ?_
              refine xl_skip rfl rfl rfl ?_
              refine xl_skip rfl rfl rfl ?_
              refine xl_skip rfl rfl rfl ?_
              refine xl_skip rfl rfl rfl ?_
              refine xl_skip rfl rfl rfl ?_
              refine xl_skip rfl rfl rfl ?_
              refine xl_skip rfl rfl rfl ?_
              refine xl_pure rfl rfl rfl (pv_pick_t (v := .bool _) rfl rfl rfl) ?_
              refine xl_nil ?_
              refine xthen_normal ?_
              refine xc_cond_t rfl ?_
              refine xc_seq ?_
              refine xc_region ?_
              refine xl_pure rfl rfl rfl (pv_build_s (cs := [.slice _ _ _, .slice _ _ _]) rfl rfl rfl) ?_
              refine xl_store rfl rfl (hv_storeA (vs := [.slice _ _ _, .slice _ _ _]) rfl rfl rfl (m0_0) rfl (by rfl) rfl) ?_
              rintro v10_1 H10_1 ⟨hU10_1, hZ10_1⟩
              have mb := mb.off hU10_1.but (by first | exact nm0_0_3_2.symm | exact ⟨mb.ne m0_0 rfl⟩ | exact ⟨mb.ne m0_0 (by assumption)⟩ | exact ⟨Ne.symm (m0_0.ne mb (by assumption))⟩)
              have ho := ho.offU m0_0 hU10_1.but (.inl rfl)
              have hao := hao.offU m0_0 hU10_1.but (.inl rfl)
              have hX := hX.upd hU10_1.but gb0_0
              have m0_0 := hU10_1.blk
              refine xl_pure rfl rfl rfl (pv_assign (v := .int _ _) rfl rfl) ?_
              refine xl_nil ?_
              refine xthen_normal ?_
              refine xc_ret ?_
              refine xthen_ret ?_
              refine xblock_ret ?_
              refine xthen_ret ?_
              refine xthen_ret ?_
              refine xblock_ret ?_
              refine xthen_ret ?_
              refine fin_ret (resv2 rfl (rv_c (ty := 45) rfl (ld_blk_a m0_0 rfl rfl)) (rv_t (v := .int _ _) rfl)) ?_
              exact ⟨.inr ⟨fun h => by obtain ⟨⟨p1, p2, p3⟩, p4⟩ := h.at_ k (by omega); rcases Nat.eq_zero_or_pos (gE E k).wt.length with h0 | h0; omega; have := p3 h0; omega, rfl⟩, hX⟩
            · skip
              refine xl_pure rfl rfl rfl (pv_move (v := .bool _) rfl rfl) ?_
              refine xl_pure rfl rfl rfl (pv_move (v := .slice _ _ _) rfl rfl) ?_
              refine xl_pure rfl rfl rfl (pv_len_l rfl rfl) ?_
              refine xl_dec rfl rfl rfl (pv_gtr rfl rfl rfl) (fun h9_9 => ?_) (fun h9_9 => ?_)
              · skip
                refine xl_pure rfl rfl rfl (pv_pick_f (v := .bool _) rfl rfl rfl) ?_
                refine xl_pure rfl rfl rfl (pv_move (v := .bool _) rfl rfl) ?_
                refine xl_skip rfl rfl rfl ?_
                refine xl_skip rfl rfl rfl ?_
                refine xl_skip rfl rfl rfl ?_
                refine xl_skip rfl rfl rfl ?_
                refine xl_skip rfl rfl rfl ?_
                refine xl_skip rfl rfl rfl ?_
                refine xl_skip rfl rfl rfl ?_
                refine xl_skip rfl rfl rfl ?_
                refine xl_skip rfl rfl rfl ?_
                refine xl_skip rfl rfl rfl ?_
                refine xl_skip rfl rfl rfl ?_
                refine xl_pure rfl rfl rfl (pv_pick_t (v := .bool _) rfl rfl rfl) ?_
                refine xl_pure rfl rfl rfl (pv_move (v := .bool _) rfl rfl) ?_
                refine xl_skip rfl rfl rfl ?_
                refine xl_skip rfl rfl rfl ?_
                refine xl_skip rfl rfl rfl ?_
                refine xl_skip rfl rfl rfl ?_
                refine xl_skip rfl rfl rfl ?_
                refine xl_skip rfl rfl rfl ?_
                refine xl_skip rfl rfl rfl ?_
                refine xl_skip rfl rfl rfl ?_
                refine xl_skip rfl rfl rfl ?_
                refine xl_pure rfl rfl rfl (pv_pick_t (v := .bool _) rfl rfl rfl) ?_
                refine xl_nil ?_
                refine xthen_normal ?_
                refine xc_cond_t rfl ?_
                refine xc_seq ?_
                refine xc_region ?_
                refine xl_pure rfl rfl rfl (pv_build_s (cs := [.slice _ _ _, .slice _ _ _]) rfl rfl rfl) ?_
                refine xl_store rfl rfl (hv_storeA (vs := [.slice _ _ _, .slice _ _ _]) rfl rfl rfl (m0_0) rfl (by rfl) rfl) ?_
                rintro v10_1 H10_1 ⟨hU10_1, hZ10_1⟩
                have mb := mb.off hU10_1.but (by first | exact nm0_0_3_2.symm | exact ⟨mb.ne m0_0 rfl⟩ | exact ⟨mb.ne m0_0 (by assumption)⟩ | exact ⟨Ne.symm (m0_0.ne mb (by assumption))⟩)
                have ho := ho.offU m0_0 hU10_1.but (.inl rfl)
                have hao := hao.offU m0_0 hU10_1.but (.inl rfl)
                have hX := hX.upd hU10_1.but gb0_0
                have m0_0 := hU10_1.blk
                refine xl_pure rfl rfl rfl (pv_assign (v := .int _ _) rfl rfl) ?_
                refine xl_nil ?_
                refine xthen_normal ?_
                refine xc_ret ?_
                refine xthen_ret ?_
                refine xblock_ret ?_
                refine xthen_ret ?_
                refine xthen_ret ?_
                refine xblock_ret ?_
                refine xthen_ret ?_
                refine fin_ret (resv2 rfl (rv_c (ty := 45) rfl (ld_blk_a m0_0 rfl rfl)) (rv_t (v := .int _ _) rfl)) ?_
                exact ⟨.inr ⟨fun h => by obtain ⟨⟨p1, p2, p3⟩, p4⟩ := h.at_ k (by omega); rcases Nat.eq_zero_or_pos (gE E k).wt.length with h0 | h0; omega; have := p3 h0; omega, rfl⟩, hX⟩
              · skip
                refine xl_pure rfl rfl rfl (pv_pick_f (v := .bool _) rfl rfl rfl) ?_
                refine xl_pure rfl rfl rfl (pv_move (v := .bool _) rfl rfl) ?_
                refine xl_pure rfl rfl rfl (pv_move (v := .slice _ _ _) rfl rfl) ?_
                refine xl_pure rfl rfl rfl (pv_len_l rfl rfl) ?_
                refine xl_dec rfl rfl rfl (pv_gtr rfl rfl rfl) (fun h9_14 => ?_) (fun h9_14 => ?_)
                · skip
                  refine xl_pure rfl rfl rfl (pv_move (v := .bool _) rfl rfl) ?_
                  refine xl_pure rfl rfl rfl (pv_move (v := .slice _ _ _) rfl rfl) ?_
                  refine xl_pure rfl rfl rfl (pv_len_l rfl rfl) ?_
                  refine xl_light rfl rfl rfl (lv_load (v := .agg _) rfl rfl (ld_blk_a mb rfl rfl)) ?_
                  refine xl_pure rfl rfl rfl (pv_move (v := .int _ _) rfl rfl) ?_
                  refine xl_heavy rfl rfl rfl (hv_call (g := 38) rfl rfl (dslots (hs.ext hX) (show k < 2 * l.length by omega) (show l.length ≤ 8 by omega)) rfl) ?_
                  rintro v9_20 H9_20 ⟨rfl, hE9_20⟩
                  have m0_0 := m0_0.ext hE9_20
                  have mb := mb.ext hE9_20
                  have ho := ho.ext hE9_20
                  have hao := hao.ext hE9_20
                  have hX := hX.trans hE9_20
                  refine xl_dec rfl rfl rfl (pv_lss rfl rfl rfl) (fun h9_21 => ?_) (fun h9_21 => ?_)
                  · skip
                    refine xl_pure rfl rfl rfl (pv_pick_t (v := .bool _) rfl rfl rfl) ?_
                    refine xl_pure rfl rfl rfl (pv_pick_f (v := .bool _) rfl rfl rfl) ?_
                    refine xl_pure rfl rfl rfl (pv_move (v := .bool _) rfl rfl) ?_
                    refine xl_skip rfl rfl rfl ?_
                    refine xl_skip rfl rfl rfl ?_
                    refine xl_skip rfl rfl rfl ?_
                    refine xl_skip rfl rfl rfl ?_
                    refine xl_skip rfl rfl rfl ?_
                    refine xl_skip rfl rfl rfl ?_
                    refine xl_skip rfl rfl rfl ?_
                    refine xl_skip rfl rfl rfl ?_
                    refine xl_skip rfl rfl rfl ?_
                    refine xl_pure rfl rfl rfl (pv_pick_t (v := .bool _) rfl rfl rfl) ?_
                    refine xl_nil ?_
                    refine xthen_normal ?_
                    refine xc_cond_t rfl ?_
                    refine xc_seq ?_
                    refine xc_region ?_
                    refine xl_pure rfl rfl rfl (pv_build_s (cs := [.slice _ _ _, .slice _ _ _]) rfl rfl rfl) ?_
                    refine xl_store rfl rfl (hv_storeA (vs := [.slice _ _ _, .slice _ _ _]) rfl rfl rfl (m0_0) rfl (by rfl) rfl) ?_
                    rintro v10_1 H10_1 ⟨hU10_1, hZ10_1⟩
                    have mb := mb.off hU10_1.but (by first | exact nm0_0_3_2.symm | exact ⟨mb.ne m0_0 rfl⟩ | exact ⟨mb.ne m0_0 (by assumption)⟩ | exact ⟨Ne.symm (m0_0.ne mb (by assumption))⟩)
                    have ho := ho.offU m0_0 hU10_1.but (.inl rfl)
                    have hao := hao.offU m0_0 hU10_1.but (.inl rfl)
                    have hX := hX.upd hU10_1.but gb0_0
                    have m0_0 := hU10_1.blk
                    refine xl_pure rfl rfl rfl (pv_assign (v := .int _ _) rfl rfl) ?_
                    refine xl_nil ?_
                    refine xthen_normal ?_
                    refine xc_ret ?_
                    refine xthen_ret ?_
                    refine xblock_ret ?_
                    refine xthen_ret ?_
                    refine xthen_ret ?_
                    refine xblock_ret ?_
                    refine xthen_ret ?_
                    refine fin_ret (resv2 rfl (rv_c (ty := 45) rfl (ld_blk_a m0_0 rfl rfl)) (rv_t (v := .int _ _) rfl)) ?_
                    exact ⟨.inr ⟨fun h => by obtain ⟨⟨p1, p2, p3⟩, p4⟩ := h.at_ k (by omega); rcases Nat.eq_zero_or_pos (gE E k).wt.length with h0 | h0; omega; have := p3 h0; omega, rfl⟩, hX⟩
                  · skip
                    refine xl_pure rfl rfl rfl (pv_pick_t (v := .bool _) rfl rfl rfl) ?_
                    refine xl_pure rfl rfl rfl (pv_pick_f (v := .bool _) rfl rfl rfl) ?_
                    refine xl_pure rfl rfl rfl (pv_move (v := .bool _) rfl rfl) ?_
                    refine xl_pure rfl rfl rfl (pv_move (v := .slice _ _ _) rfl rfl) ?_
                    refine xl_pure rfl rfl rfl (pv_len_l rfl rfl) ?_
                    refine xl_dec rfl rfl rfl (pv_gtr rfl rfl rfl) (fun h9_27 => ?_) (fun h9_27 => ?_)
                    · skip
                      refine xl_pure rfl rfl rfl (pv_move (v := .bool _) rfl rfl) ?_
                      refine xl_light rfl rfl rfl (lv_load (v := .agg _) rfl rfl (ld_blk_a mb rfl rfl)) ?_
                      refine xl_pure rfl rfl rfl (pv_move (v := .int _ _) rfl rfl) ?_
                      refine xl_heavy rfl rfl rfl (hv_call (g := 38) rfl rfl (dslots (hs.ext hX) (show k < 2 * l.length by omega) (show l.length ≤ 8 by omega)) rfl) ?_
                      rintro v9_31 H9_31 ⟨rfl, hE9_31⟩
                      have m0_0 := m0_0.ext hE9_31
                      have mb := mb.ext hE9_31
                      have ho := ho.ext hE9_31
                      have hao := hao.ext hE9_31
                      have hX := hX.trans hE9_31
                      refine xl_dec rfl rfl rfl (pv_eql rfl rfl rfl) (fun h9_32 => ?_) (fun h9_32 => ?_)
                      · skip
                        refine xl_pure rfl rfl rfl (pv_pick_t (v := .bool _) rfl rfl rfl) ?_
                        refine xl_pure rfl rfl rfl (pv_pick_f (v := .bool _) rfl rfl rfl) ?_
                        refine xl_nil ?_
                        refine xthen_normal ?_
                        refine xc_cond_t rfl ?_
                        refine xc_seq ?_
                        refine xc_region ?_
                        refine xl_pure rfl rfl rfl (pv_build_s (cs := [.slice _ _ _, .slice _ _ _]) rfl rfl rfl) ?_
                        refine xl_store rfl rfl (hv_storeA (vs := [.slice _ _ _, .slice _ _ _]) rfl rfl rfl (m0_0) rfl (by rfl) rfl) ?_
                        rintro v10_1 H10_1 ⟨hU10_1, hZ10_1⟩
                        have mb := mb.off hU10_1.but (by first | exact nm0_0_3_2.symm | exact ⟨mb.ne m0_0 rfl⟩ | exact ⟨mb.ne m0_0 (by assumption)⟩ | exact ⟨Ne.symm (m0_0.ne mb (by assumption))⟩)
                        have ho := ho.offU m0_0 hU10_1.but (.inl rfl)
                        have hao := hao.offU m0_0 hU10_1.but (.inl rfl)
                        have hX := hX.upd hU10_1.but gb0_0
                        have m0_0 := hU10_1.blk
                        refine xl_pure rfl rfl rfl (pv_assign (v := .int _ _) rfl rfl) ?_
                        refine xl_nil ?_
                        refine xthen_normal ?_
                        refine xc_ret ?_
                        refine xthen_ret ?_
                        refine xblock_ret ?_
                        refine xthen_ret ?_
                        refine xthen_ret ?_
                        refine xblock_ret ?_
                        refine xthen_ret ?_
                        refine fin_ret (resv2 rfl (rv_c (ty := 45) rfl (ld_blk_a m0_0 rfl rfl)) (rv_t (v := .int _ _) rfl)) ?_
                        exact ⟨.inr ⟨fun h => by obtain ⟨⟨p1, p2, p3⟩, p4⟩ := h.at_ k (by omega); rcases Nat.eq_zero_or_pos (gE E k).wt.length with h0 | h0; omega; have := p3 h0; omega, rfl⟩, hX⟩
                      · skip
                        refine xl_pure rfl rfl rfl (pv_pick_t (v := .bool _) rfl rfl rfl) ?_
                        refine xl_pure rfl rfl rfl (pv_pick_f (v := .bool _) rfl rfl rfl) ?_
                        refine xl_nil ?_
                        refine xthen_normal ?_
                        refine xc_cond_f rfl ?_
                        refine xc_skip ?_
                        refine xthen_normal ?_
                        exact ⟨(), ⟨rfl, rfl, rfl, rfl, rfl, rfl, rfl, trivial⟩, ⟨⟨by omega, by omega, fun h => ⟨by omega, by omega⟩⟩, mb, m0_0, ho, hao, hX⟩⟩
                    · skip
                      refine xl_pure rfl rfl rfl (pv_move (v := .bool _) rfl rfl) ?_
                      refine xl_skip rfl rfl rfl ?_
                      refine xl_skip rfl rfl rfl ?_
                      refine xl_skip rfl rfl rfl ?_
                      refine xl_skip rfl rfl rfl ?_
                      refine xl_pure rfl rfl rfl (pv_pick_f (v := .bool _) rfl rfl rfl) ?_
                      refine xl_pure rfl rfl rfl (pv_pick_f (v := .bool _) rfl rfl rfl) ?_
                      refine xl_nil ?_
                      refine xthen_normal ?_
                      refine xc_cond_f rfl ?_
                      refine xc_skip ?_
                      refine xthen_normal ?_
                      exact ⟨(), ⟨rfl, rfl, rfl, rfl, rfl, rfl, rfl, trivial⟩, ⟨⟨by omega, by omega, fun h => ⟨by omega, by omega⟩⟩, mb, m0_0, ho, hao, hX⟩⟩
                · skip
                  refine xl_pure rfl rfl rfl (pv_move (v := .bool _) rfl rfl) ?_
                  refine xl_skip rfl rfl rfl ?_
                  refine xl_skip rfl rfl rfl ?_
                  refine xl_skip rfl rfl rfl ?_
                  refine xl_skip rfl rfl rfl ?_
                  refine xl_skip rfl rfl rfl ?_
                  refine xl_skip rfl rfl rfl ?_
                  refine xl_pure rfl rfl rfl (pv_pick_f (v := .bool _) rfl rfl rfl) ?_
                  refine xl_pure rfl rfl rfl (pv_pick_f (v := .bool _) rfl rfl rfl) ?_
                  refine xl_pure rfl rfl rfl (pv_move (v := .bool _) rfl rfl) ?_
                  refine xl_pure rfl rfl rfl (pv_move (v := .slice _ _ _) rfl rfl) ?_
                  refine xl_pure rfl rfl rfl (pv_len_l rfl rfl) ?_
                  refine xl_dec rfl rfl rfl (pv_gtr rfl rfl rfl) (fun h9_27 => ?_) (fun h9_27 => ?_)
                  · skip
                    refine xl_pure rfl rfl rfl (pv_move (v := .bool _) rfl rfl) ?_
                    refine xl_light rfl rfl rfl (lv_load (v := .agg _) rfl rfl (ld_blk_a mb rfl rfl)) ?_
                    refine xl_pure rfl rfl rfl (pv_move (v := .int _ _) rfl rfl) ?_
                    refine xl_heavy rfl rfl rfl (hv_call (g := 38) rfl rfl (dslots (hs.ext hX) (show k < 2 * l.length by omega) (show l.length ≤ 8 by omega)) rfl) ?_
                    rintro v9_31 H9_31 ⟨rfl, hE9_31⟩
                    have m0_0 := m0_0.ext hE9_31
                    have mb := mb.ext hE9_31
                    have ho := ho.ext hE9_31
                    have hao := hao.ext hE9_31
                    have hX := hX.trans hE9_31
                    refine xl_dec rfl rfl rfl (pv_eql rfl rfl rfl) (fun h9_32 => ?_) (fun h9_32 => ?_)
                    · skip
                      refine xl_pure rfl rfl rfl (pv_pick_t (v := .bool _) rfl rfl rfl) ?_
                      refine xl_pure rfl rfl rfl (pv_pick_f (v := .bool _) rfl rfl rfl) ?_
                      refine xl_nil ?_
                      refine xthen_normal ?_
                      refine xc_cond_t rfl ?_
                      refine xc_seq ?_
                      refine xc_region ?_
                      refine xl_pure rfl rfl rfl (pv_build_s (cs := [.slice _ _ _, .slice _ _ _]) rfl rfl rfl) ?_
                      refine xl_store rfl rfl (hv_storeA (vs := [.slice _ _ _, .slice _ _ _]) rfl rfl rfl (m0_0) rfl (by rfl) rfl) ?_
                      rintro v10_1 H10_1 ⟨hU10_1, hZ10_1⟩
                      have mb := mb.off hU10_1.but (by first | exact nm0_0_3_2.symm | exact ⟨mb.ne m0_0 rfl⟩ | exact ⟨mb.ne m0_0 (by assumption)⟩ | exact ⟨Ne.symm (m0_0.ne mb (by assumption))⟩)
                      have ho := ho.offU m0_0 hU10_1.but (.inl rfl)
                      have hao := hao.offU m0_0 hU10_1.but (.inl rfl)
                      have hX := hX.upd hU10_1.but gb0_0
                      have m0_0 := hU10_1.blk
                      refine xl_pure rfl rfl rfl (pv_assign (v := .int _ _) rfl rfl) ?_
                      refine xl_nil ?_
                      refine xthen_normal ?_
                      refine xc_ret ?_
                      refine xthen_ret ?_
                      refine xblock_ret ?_
                      refine xthen_ret ?_
                      refine xthen_ret ?_
                      refine xblock_ret ?_
                      refine xthen_ret ?_
                      refine fin_ret (resv2 rfl (rv_c (ty := 45) rfl (ld_blk_a m0_0 rfl rfl)) (rv_t (v := .int _ _) rfl)) ?_
                      exact ⟨.inr ⟨fun h => by obtain ⟨⟨p1, p2, p3⟩, p4⟩ := h.at_ k (by omega); rcases Nat.eq_zero_or_pos (gE E k).wt.length with h0 | h0; omega; have := p3 h0; omega, rfl⟩, hX⟩
                    · skip
                      refine xl_pure rfl rfl rfl (pv_pick_t (v := .bool _) rfl rfl rfl) ?_
                      refine xl_pure rfl rfl rfl (pv_pick_f (v := .bool _) rfl rfl rfl) ?_
                      refine xl_nil ?_
                      refine xthen_normal ?_
                      refine xc_cond_f rfl ?_
                      refine xc_skip ?_
                      refine xthen_normal ?_
                      exact ⟨(), ⟨rfl, rfl, rfl, rfl, rfl, rfl, rfl, trivial⟩, ⟨⟨by omega, by omega, fun h => ⟨by omega, by omega⟩⟩, mb, m0_0, ho, hao, hX⟩⟩
                  · skip
                    refine xl_pure rfl rfl rfl (pv_move (v := .bool _) rfl rfl) ?_
                    refine xl_skip rfl rfl rfl ?_
                    refine xl_skip rfl rfl rfl ?_
                    refine xl_skip rfl rfl rfl ?_
                    refine xl_skip rfl rfl rfl ?_
                    refine xl_pure rfl rfl rfl (pv_pick_f (v := .bool _) rfl rfl rfl) ?_
                    refine xl_pure rfl rfl rfl (pv_pick_f (v := .bool _) rfl rfl rfl) ?_
                    refine xl_nil ?_
                    refine xthen_normal ?_
                    refine xc_cond_f rfl ?_
                    refine xc_skip ?_
                    refine xthen_normal ?_
                    exact ⟨(), ⟨rfl, rfl, rfl, rfl, rfl, rfl, rfl, trivial⟩, ⟨⟨by omega, by omega, fun h => ⟨by omega, by omega⟩⟩, mb, m0_0, ho, hao, hX⟩⟩
          · intro σ
            clear hX m0_0 mb ho hao
            rintro t Hm9 ⟨hlk, mb, m0_0, ho, hao, hX⟩
            replace hlk : lnOk ((sls l).getD k 0) (gE E k).rn (gE E k).wt := hlk
            replace mb : Blk Hm9 b3_2 [.slice la l.length lc, .slice va k vc] 45 := mb
            replace m0_0 : Blk Hm9 b0_0 [.slice none 0 0, .slice none 0 0] 45 := m0_0
            replace ho : Own Hm9 H.size 40 2 (.slice va k vc) (k) (fL (E.take k)) := ho
            replace hao : Own Hm9 H.size 3 1 (.slice va7 al.length vc7) al.length (ints al) := hao
            replace hX : Ext H Hm9 := hX
            show XC _ _ _ (upds σ [(1, .slice xa E.length xc), (4, .pointer (some ⟨b0_0, 0, none⟩)), (6, .pointer (some ⟨b3_2, 0, none⟩)), (7, .slice va7 al.length vc7), (8, .int .i64 (k : Nat)), (9, .slice (gE E k).ra (gE E k).rn.length (gE E k).rc), (10, .slice (gE E k).wa (gE E k).wt.length (gE E k).wc)]) _
            refine xc_seq ?_
            refine xc_seq ?_
            have hlk1 : ((gE E k).rn.length : Int) ≤ (sls l).getD k 0 := hlk.1
            have hlk2 : (gE E k).wt.length ≤ 8 := hlk.2.1
            refine xc_region ?_
            refine xl_pure rfl rfl rfl (pv_assign (v := .int _ _) rfl rfl) ?_
            refine xl_nil ?_
            refine xthen_normal ?_
            refine xc_block ?_
            refine xc_loop (τ := Nat × List Int × Value) (fun t => [(1, .slice xa E.length xc), (4, .pointer (some ⟨b0_0, 0, none⟩)), (6, .pointer (some ⟨b3_2, 0, none⟩)), (7, t.2.2), (8, .int .i64 (k : Nat)), (9, .slice (gE E k).ra (gE E k).rn.length (gE E k).rc), (10, .slice (gE E k).wa (gE E k).wt.length (gE E k).wc), (11, .int .i64 (t.1 : Nat))]) (fun t H' => (t.1 ≤ (gE E k).rn.length) ∧ (lnOk ((sls l).getD k 0) (gE E k).rn (gE E k).wt) ∧ (LdG l E k t.1) ∧ (SrtI (gE E k).rn t.1) ∧ (t.2.1 = jbP E k t.1) ∧ (Blk H' b3_2 [.slice la l.length lc, .slice va k vc] 45) ∧ (Blk H' b0_0 [.slice none 0 0, .slice none 0 0] 45) ∧ (Own H' H.size 40 2 (.slice va k vc) (k) (fL (E.take k))) ∧ (Own H' H.size 3 1 t.2.2 t.2.1.length (ints t.2.1)) ∧ (Ext H H')) (fun t H' => (gE E k).rn.length - t.1) (0, al, .slice va7 al.length vc7) ?_ ?_ ?_
            · exact ⟨rfl, rfl, rfl, rfl, rfl, rfl, rfl, rfl, trivial⟩
            · skip
              exact ⟨Nat.zero_le _, hlk, hg, srtI_0, hal, mb, m0_0, ho, hao, hX⟩
            · intro σ
              clear hX m0_0 mb ho hao hal
              rintro ⟨i, al, vo7⟩ Hl12 ⟨hi, hlk, hg, hso, hal, mb, m0_0, ho, hao, hX⟩
              replace hi : i ≤ (gE E k).rn.length := hi
              replace hlk : lnOk ((sls l).getD k 0) (gE E k).rn (gE E k).wt := hlk
              replace hg : LdG l E k i := hg
              replace hso : SrtI (gE E k).rn i := hso
              replace hal : al = jbP E k i := hal
              replace mb : Blk Hl12 b3_2 [.slice la l.length lc, .slice va k vc] 45 := mb
              replace m0_0 : Blk Hl12 b0_0 [.slice none 0 0, .slice none 0 0] 45 := m0_0
              replace ho : Own Hl12 H.size 40 2 (.slice va k vc) (k) (fL (E.take k)) := ho
              replace hao : Own Hl12 H.size 3 1 vo7 al.length (ints al) := hao
              replace hX : Ext H Hl12 := hX
              obtain ⟨va7, vc7, rfl⟩ := hao.val
              show XC _ _ _ (upds σ [(1, .slice xa E.length xc), (4, .pointer (some ⟨b0_0, 0, none⟩)), (6, .pointer (some ⟨b3_2, 0, none⟩)), (7, .slice va7 al.length vc7), (8, .int .i64 (k : Nat)), (9, .slice (gE E k).ra (gE E k).rn.length (gE E k).rc), (10, .slice (gE E k).wa (gE E k).wt.length (gE E k).wc), (11, .int .i64 (i : Nat))]) _
              refine xc_seq ?_
              refine xc_seq ?_
              refine xc_region ?_
              refine xl_pure rfl rfl rfl (pv_move (v := .int _ _) rfl rfl) ?_
              refine xl_pure rfl rfl rfl (pv_move (v := .slice _ _ _) rfl rfl) ?_
              refine xl_pure rfl rfl rfl (pv_len_l rfl rfl) ?_
              refine xl_dec rfl rfl rfl (pv_lss rfl rfl rfl) (fun h12_3 => ?_) (fun h12_3 => ?_)
              · skip
                refine xl_nil ?_
                refine xthen_normal ?_
                refine xc_cond_t rfl ?_
                refine xc_skip ?_
                refine xthen_normal ?_
                refine xc_seq ?_
                refine xc_block ?_
                refine xc_seq ?_
                refine xc_seq ?_
                have hi1 : ((i : Int) - 1).toNat = i - 1 := by omega
                have hji : i < (jlE (gE E k)).length := by rw [jl_len]; omega
                refine xp_start rfl (by repeat (first | with_reducible exact np_fin | with_reducible exact np_ret | with_reducible refine np_then ?_ | with_reducible refine np_block ?_)) (by kernel_rfl) ?_
                refine xp_pure (i := 0) rfl (by kernel_rfl) (by kernel_rfl) rfl rfl rfl (pv_move (v := .slice _ _ _) rfl rfl) ?_
                refine xp_pure (i := 1) rfl (by kernel_rfl) (by kernel_rfl) rfl rfl rfl (pv_move (v := .int _ _) rfl rfl) ?_
                refine xp_pure (i := 2) rfl (by kernel_rfl) (by kernel_rfl) rfl rfl rfl (pv_indexAddr_l rfl (sl_eq (hdr (by omega)).1) rfl (by omega)) ?_
                refine xp_light (i := 3) rfl (by kernel_rfl) (by kernel_rfl) rfl rfl rfl (lv_load (v := .int _ _) rfl rfl (by exact ld_nth (k := i) ((hdr (by omega)).2.ext hX) (by omega))) ?_
                refine xp_dec (i := 4) rfl (by kernel_rfl) (by kernel_rfl) rfl rfl rfl (pv_lss rfl rfl rfl) (fun h14_4 => ?_) (fun h14_4 => ?_)
                · skip
                  refine xp_pure (i := 5) rfl (by kernel_rfl) (by kernel_rfl) rfl rfl rfl (pv_move (v := .bool _) rfl rfl) ?_
                  refine xp_skip (i := 6) rfl (by kernel_rfl) (by kernel_rfl) rfl rfl rfl ?_
                  refine xp_skip (i := 7) rfl (by kernel_rfl) (by kernel_rfl) rfl rfl rfl ?_
                  refine xp_skip (i := 8) rfl (by kernel_rfl) (by kernel_rfl) rfl rfl rfl ?_
                  refine xp_skip (i := 9) rfl (by kernel_rfl) (by kernel_rfl) rfl rfl rfl ?_
                  refine xp_skip (i := 10) rfl (by kernel_rfl) (by kernel_rfl) rfl rfl rfl ?_
                  refine xp_pure (i := 11) rfl (by kernel_rfl) (by kernel_rfl) rfl rfl rfl (pv_pick_t (v := .bool _) rfl rfl rfl) ?_
                  refine xp_pure (i := 12) rfl (by kernel_rfl) (by kernel_rfl) rfl rfl rfl (pv_move (v := .bool _) rfl rfl) ?_
                  refine xp_skip (i := 13) rfl (by kernel_rfl) (by kernel_rfl) rfl rfl rfl ?_
                  refine xp_skip (i := 14) rfl (by kernel_rfl) (by kernel_rfl) rfl rfl rfl ?_
                  refine xp_skip (i := 15) rfl (by kernel_rfl) (by kernel_rfl) rfl rfl rfl ?_
                  refine xp_skip (i := 16) rfl (by kernel_rfl) (by kernel_rfl) rfl rfl rfl ?_
                  refine xp_skip (i := 17) rfl (by kernel_rfl) (by kernel_rfl) rfl rfl rfl ?_
                  refine xp_skip (i := 18) rfl (by kernel_rfl) (by kernel_rfl) rfl rfl rfl ?_
                  refine xp_pure (i := 19) rfl (by kernel_rfl) (by kernel_rfl) rfl rfl rfl (pv_pick_t (v := .bool _) rfl rfl rfl) ?_
                  refine xp_pure (i := 20) rfl (by kernel_rfl) (by kernel_rfl) rfl rfl rfl (pv_move (v := .bool _) rfl rfl) ?_
                  refine xp_skip (i := 21) rfl (by kernel_rfl) (by kernel_rfl) rfl rfl rfl ?_
                  refine xp_skip (i := 22) rfl (by kernel_rfl) (by kernel_rfl) rfl rfl rfl ?_
                  refine xp_skip (i := 23) rfl (by kernel_rfl) (by kernel_rfl) rfl rfl rfl ?_
                  refine xp_skip (i := 24) rfl (by kernel_rfl) (by kernel_rfl) rfl rfl rfl ?_
                  refine xp_skip (i := 25) rfl (by kernel_rfl) (by kernel_rfl) rfl rfl rfl ?_
                  refine xp_skip (i := 26) rfl (by kernel_rfl) (by kernel_rfl) rfl rfl rfl ?_
                  refine xp_skip (i := 27) rfl (by kernel_rfl) (by kernel_rfl) rfl rfl rfl ?_
                  refine xp_skip (i := 28) rfl (by kernel_rfl) (by kernel_rfl) rfl rfl rfl ?_
                  refine xp_skip (i := 29) rfl (by kernel_rfl) (by kernel_rfl) rfl rfl rfl ?_
                  refine xp_skip (i := 30) rfl (by kernel_rfl) (by kernel_rfl) rfl rfl rfl ?_
                  refine xp_skip (i := 31) rfl (by kernel_rfl) (by kernel_rfl) rfl rfl rfl ?_
                  refine xp_skip (i := 32) rfl (by kernel_rfl) (by kernel_rfl) rfl rfl rfl ?_
                  refine xp_skip (i := 33) rfl (by kernel_rfl) (by kernel_rfl) rfl rfl rfl ?_
                  refine xp_skip (i := 34) rfl (by kernel_rfl) (by kernel_rfl) rfl rfl rfl ?_
                  refine xp_pure (i := 35) rfl (by kernel_rfl) (by kernel_rfl) rfl rfl rfl (pv_pick_t (v := .bool _) rfl rfl rfl) ?_
                  refine xp_done (by kernel_rfl) ?_
                  refine xthen_normal ?_
                  refine xc_cond_t rfl ?_
                  refine xc_seq ?_
                  refine xc_region ?_
                  refine xl_pure rfl rfl rfl (pv_build_s (cs := [.slice _ _ _, .slice _ _ _]) rfl rfl rfl) ?_
                  refine xl_store rfl rfl (hv_storeA (vs := [.slice _ _ _, .slice _ _ _]) rfl rfl rfl (m0_0) rfl (by rfl) rfl) ?_
                  rintro v15_1 H15_1 ⟨hU15_1, hZ15_1⟩
                  have mb := mb.off hU15_1.but (by first | exact nm0_0_3_2.symm | exact ⟨mb.ne m0_0 rfl⟩ | exact ⟨mb.ne m0_0 (by assumption)⟩ | exact ⟨Ne.symm (m0_0.ne mb (by assumption))⟩)
                  have ho := ho.offU m0_0 hU15_1.but (.inl rfl)
                  have hao := hao.offU m0_0 hU15_1.but (.inl rfl)
                  have hX := hX.upd hU15_1.but gb0_0
                  have m0_0 := hU15_1.blk
                  refine xl_pure rfl rfl rfl (pv_assign (v := .int _ _) rfl rfl) ?_
                  refine xl_nil ?_
                  refine xthen_normal ?_
                  refine xc_ret ?_
                  refine xthen_ret ?_
                  refine xblock_ret ?_
                  refine xthen_ret ?_
                  refine xthen_ret ?_
                  refine xblock_ret ?_
                  refine xthen_ret ?_
                  refine xblock_ret ?_
                  refine xthen_ret ?_
                  refine xthen_ret ?_
                  refine xblock_ret ?_
                  refine xthen_ret ?_
                  refine fin_ret (resv2 rfl (rv_c (ty := 45) rfl (ld_blk_a m0_0 rfl rfl)) (rv_t (v := .int _ _) rfl)) ?_
                  refine ⟨.inr ⟨fun h => ?_, rfl⟩, hX⟩
                  have hn := h.new hkE hji
                  rw [jl_run (by omega)] at hn
                  first
                    | (have h1 := hn.1; unfold isJ at h1; omega)
                    | (exact hn.2 (hal ▸ hi14_18))
                    | (refine srtI_get (h.at_ k hkE).2 (i := i) (by omega) (by omega) ?_; rw [← hi1]; exact h14_33)
                · skip
                  refine xp_pure (i := 5) rfl (by kernel_rfl) (by kernel_rfl) rfl rfl rfl (pv_move (v := .bool _) rfl rfl) ?_
                  refine xp_pure (i := 6) rfl (by kernel_rfl) (by kernel_rfl) rfl rfl rfl (pv_move (v := .slice _ _ _) rfl rfl) ?_
                  refine xp_pure (i := 7) rfl (by kernel_rfl) (by kernel_rfl) rfl rfl rfl (pv_move (v := .int _ _) rfl rfl) ?_
                  refine xp_pure (i := 8) rfl (by kernel_rfl) (by kernel_rfl) rfl rfl rfl (pv_indexAddr_l rfl (sl_eq (hdr (by omega)).1) rfl (by omega)) ?_
                  refine xp_light (i := 9) rfl (by kernel_rfl) (by kernel_rfl) rfl rfl rfl (lv_load (v := .int _ _) rfl rfl (by exact ld_nth (k := i) ((hdr (by omega)).2.ext hX) (by omega))) ?_
                  refine xp_dec (i := 10) rfl (by kernel_rfl) (by kernel_rfl) rfl rfl rfl (pv_gtr rfl rfl rfl) (fun h14_10 => ?_) (fun h14_10 => ?_)
                  · skip
                    refine xp_pure (i := 11) rfl (by kernel_rfl) (by kernel_rfl) rfl rfl rfl (pv_pick_f (v := .bool _) rfl rfl rfl) ?_
                    refine xp_pure (i := 12) rfl (by kernel_rfl) (by kernel_rfl) rfl rfl rfl (pv_move (v := .bool _) rfl rfl) ?_
                    refine xp_skip (i := 13) rfl (by kernel_rfl) (by kernel_rfl) rfl rfl rfl ?_
                    refine xp_skip (i := 14) rfl (by kernel_rfl) (by kernel_rfl) rfl rfl rfl ?_
                    refine xp_skip (i := 15) rfl (by kernel_rfl) (by kernel_rfl) rfl rfl rfl ?_
                    refine xp_skip (i := 16) rfl (by kernel_rfl) (by kernel_rfl) rfl rfl rfl ?_
                    refine xp_skip (i := 17) rfl (by kernel_rfl) (by kernel_rfl) rfl rfl rfl ?_
                    refine xp_skip (i := 18) rfl (by kernel_rfl) (by kernel_rfl) rfl rfl rfl ?_
                    refine xp_pure (i := 19) rfl (by kernel_rfl) (by kernel_rfl) rfl rfl rfl (pv_pick_t (v := .bool _) rfl rfl rfl) ?_
                    refine xp_pure (i := 20) rfl (by kernel_rfl) (by kernel_rfl) rfl rfl rfl (pv_move (v := .bool _) rfl rfl) ?_
                    refine xp_skip (i := 21) rfl (by kernel_rfl) (by kernel_rfl) rfl rfl rfl ?_
                    refine xp_skip (i := 22) rfl (by kernel_rfl) (by kernel_rfl) rfl rfl rfl ?_
                    refine xp_skip (i := 23) rfl (by kernel_rfl) (by kernel_rfl) rfl rfl rfl ?_
                    refine xp_skip (i := 24) rfl (by kernel_rfl) (by kernel_rfl) rfl rfl rfl ?_
                    refine xp_skip (i := 25) rfl (by kernel_rfl) (by kernel_rfl) rfl rfl rfl ?_
                    refine xp_skip (i := 26) rfl (by kernel_rfl) (by kernel_rfl) rfl rfl rfl ?_
                    refine xp_skip (i := 27) rfl (by kernel_rfl) (by kernel_rfl) rfl rfl rfl ?_
                    refine xp_skip (i := 28) rfl (by kernel_rfl) (by kernel_rfl) rfl rfl rfl ?_
                    refine xp_skip (i := 29) rfl (by kernel_rfl) (by kernel_rfl) rfl rfl rfl ?_
                    refine xp_skip (i := 30) rfl (by kernel_rfl) (by kernel_rfl) rfl rfl rfl ?_
                    refine xp_skip (i := 31) rfl (by kernel_rfl) (by kernel_rfl) rfl rfl rfl ?_
                    refine xp_skip (i := 32) rfl (by kernel_rfl) (by kernel_rfl) rfl rfl rfl ?_
                    refine xp_skip (i := 33) rfl (by kernel_rfl) (by kernel_rfl) rfl rfl rfl ?_
                    refine xp_skip (i := 34) rfl (by kernel_rfl) (by kernel_rfl) rfl rfl rfl ?_
                    refine xp_pure (i := 35) rfl (by kernel_rfl) (by kernel_rfl) rfl rfl rfl (pv_pick_t (v := .bool _) rfl rfl rfl) ?_
                    refine xp_done (by kernel_rfl) ?_
                    refine xthen_normal ?_
                    refine xc_cond_t rfl ?_
                    refine xc_seq ?_
                    refine xc_region ?_
                    refine xl_pure rfl rfl rfl (pv_build_s (cs := [.slice _ _ _, .slice _ _ _]) rfl rfl rfl) ?_
                    refine xl_store rfl rfl (hv_storeA (vs := [.slice _ _ _, .slice _ _ _]) rfl rfl rfl (m0_0) rfl (by rfl) rfl) ?_
                    rintro v15_1 H15_1 ⟨hU15_1, hZ15_1⟩
                    have mb := mb.off hU15_1.but (by first | exact nm0_0_3_2.symm | exact ⟨mb.ne m0_0 rfl⟩ | exact ⟨mb.ne m0_0 (by assumption)⟩ | exact ⟨Ne.symm (m0_0.ne mb (by assumption))⟩)
                    have ho := ho.offU m0_0 hU15_1.but (.inl rfl)
                    have hao := hao.offU m0_0 hU15_1.but (.inl rfl)
                    have hX := hX.upd hU15_1.but gb0_0
                    have m0_0 := hU15_1.blk
                    refine xl_pure rfl rfl rfl (pv_assign (v := .int _ _) rfl rfl) ?_
                    refine xl_nil ?_
                    refine xthen_normal ?_
                    refine xc_ret ?_
                    refine xthen_ret ?_
                    refine xblock_ret ?_
                    refine xthen_ret ?_
                    refine xthen_ret ?_
                    refine xblock_ret ?_
                    refine xthen_ret ?_
                    refine xblock_ret ?_
                    refine xthen_ret ?_
                    refine xthen_ret ?_
                    refine xblock_ret ?_
                    refine xthen_ret ?_
                    refine fin_ret (resv2 rfl (rv_c (ty := 45) rfl (ld_blk_a m0_0 rfl rfl)) (rv_t (v := .int _ _) rfl)) ?_
                    refine ⟨.inr ⟨fun h => ?_, rfl⟩, hX⟩
                    have hn := h.new hkE hji
                    rw [jl_run (by omega)] at hn
                    first
                      | (have h1 := hn.1; unfold isJ at h1; omega)
                      | (exact hn.2 (hal ▸ hi14_18))
                      | (refine srtI_get (h.at_ k hkE).2 (i := i) (by omega) (by omega) ?_; rw [← hi1]; exact h14_33)
                  · skip
                    refine xp_pure (i := 11) rfl (by kernel_rfl) (by kernel_rfl) rfl rfl rfl (pv_pick_f (v := .bool _) rfl rfl rfl) ?_
                    refine xp_pure (i := 12) rfl (by kernel_rfl) (by kernel_rfl) rfl rfl rfl (pv_move (v := .bool _) rfl rfl) ?_
                    refine xp_pure (i := 13) rfl (by kernel_rfl) (by kernel_rfl) rfl rfl rfl (pv_move (v := .slice _ _ _) rfl rfl) ?_
                    refine xp_pure (i := 14) rfl (by kernel_rfl) (by kernel_rfl) rfl rfl rfl (pv_move (v := .slice _ _ _) rfl rfl) ?_
                    refine xp_pure (i := 15) rfl (by kernel_rfl) (by kernel_rfl) rfl rfl rfl (pv_move (v := .int _ _) rfl rfl) ?_
                    refine xp_pure (i := 16) rfl (by kernel_rfl) (by kernel_rfl) rfl rfl rfl (pv_indexAddr_l rfl (sl_eq (hdr (by omega)).1) rfl (by omega)) ?_
                    refine xp_light (i := 17) rfl (by kernel_rfl) (by kernel_rfl) rfl rfl rfl (lv_load (v := .int _ _) rfl rfl (by exact ld_nth (k := i) ((hdr (by omega)).2.ext hX) (by omega))) ?_
                    refine xp_heavy (i := 18) (by kernel_rfl) ?_
                    refine xph_val rfl rfl rfl rfl (hv_call (g := 39) rfl rfl (din (own_Ints hao) (by have := hg.le; rw [← hal] at this; omega) (((gE E k).rn.getD i 0))) rfl) (pd (by kernel_rfl) (pk (by kernel_rfl) (pk (by kernel_rfl) pn))) ?_
                    rintro v14_18 H14_18 ⟨hv14_18, rfl⟩
                    refine ⟨(okc (lv_load (v := .int _ _) rfl rfl (by exact ld_nth (k := i) ((hdr (by omega)).2.ext hX) (by omega))) (okc (lv_load (v := .int _ _) rfl rfl (by exact ld_nth (k := i) ((hdr (by omega)).2.ext hX) (by omega))) okn)), ?_⟩
                    rcases hv14_18 with ⟨hi14_18, rfl⟩ | ⟨hi14_18, rfl⟩
                    · skip
                      refine xp_pure (i := 19) rfl (by kernel_rfl) (by kernel_rfl) rfl rfl rfl (pv_pick_f (v := .bool _) rfl rfl rfl) ?_
                      refine xp_pure (i := 20) rfl (by kernel_rfl) (by kernel_rfl) rfl rfl rfl (pv_move (v := .bool _) rfl rfl) ?_
                      refine xp_skip (i := 21) rfl (by kernel_rfl) (by kernel_rfl) rfl rfl rfl ?_
                      refine xp_skip (i := 22) rfl (by kernel_rfl) (by kernel_rfl) rfl rfl rfl ?_
                      refine xp_skip (i := 23) rfl (by kernel_rfl) (by kernel_rfl) rfl rfl rfl ?_
                      refine xp_skip (i := 24) rfl (by kernel_rfl) (by kernel_rfl) rfl rfl rfl ?_
                      refine xp_skip (i := 25) rfl (by kernel_rfl) (by kernel_rfl) rfl rfl rfl ?_
                      refine xp_skip (i := 26) rfl (by kernel_rfl) (by kernel_rfl) rfl rfl rfl ?_
                      refine xp_skip (i := 27) rfl (by kernel_rfl) (by kernel_rfl) rfl rfl rfl ?_
                      refine xp_skip (i := 28) rfl (by kernel_rfl) (by kernel_rfl) rfl rfl rfl ?_
                      refine xp_skip (i := 29) rfl (by kernel_rfl) (by kernel_rfl) rfl rfl rfl ?_
                      refine xp_skip (i := 30) rfl (by kernel_rfl) (by kernel_rfl) rfl rfl rfl ?_
                      refine xp_skip (i := 31) rfl (by kernel_rfl) (by kernel_rfl) rfl rfl rfl ?_
                      refine xp_skip (i := 32) rfl (by kernel_rfl) (by kernel_rfl) rfl rfl rfl ?_
                      refine xp_skip (i := 33) rfl (by kernel_rfl) (by kernel_rfl) rfl rfl rfl ?_
                      refine xp_skip (i := 34) rfl (by kernel_rfl) (by kernel_rfl) rfl rfl rfl ?_
                      refine xp_pure (i := 35) rfl (by kernel_rfl) (by kernel_rfl) rfl rfl rfl (pv_pick_t (v := .bool _) rfl rfl rfl) ?_
                      refine xp_done (by kernel_rfl) ?_
                      refine xthen_normal ?_
                      refine xc_cond_t rfl ?_
                      refine xc_seq ?_
                      refine xc_region ?_
                      refine xl_pure rfl rfl rfl (pv_build_s (cs := [.slice _ _ _, .slice _ _ _]) rfl rfl rfl) ?_
                      refine xl_store rfl rfl (hv_storeA (vs := [.slice _ _ _, .slice _ _ _]) rfl rfl rfl (m0_0) rfl (by rfl) rfl) ?_
                      rintro v15_1 H15_1 ⟨hU15_1, hZ15_1⟩
                      have mb := mb.off hU15_1.but (by first | exact nm0_0_3_2.symm | exact ⟨mb.ne m0_0 rfl⟩ | exact ⟨mb.ne m0_0 (by assumption)⟩ | exact ⟨Ne.symm (m0_0.ne mb (by assumption))⟩)
                      have ho := ho.offU m0_0 hU15_1.but (.inl rfl)
                      have hao := hao.offU m0_0 hU15_1.but (.inl rfl)
                      have hX := hX.upd hU15_1.but gb0_0
                      have m0_0 := hU15_1.blk
                      refine xl_pure rfl rfl rfl (pv_assign (v := .int _ _) rfl rfl) ?_
                      refine xl_nil ?_
                      refine xthen_normal ?_
                      refine xc_ret ?_
                      refine xthen_ret ?_
                      refine xblock_ret ?_
                      refine xthen_ret ?_
                      refine xthen_ret ?_
                      refine xblock_ret ?_
                      refine xthen_ret ?_
                      refine xblock_ret ?_
                      refine xthen_ret ?_
                      refine xthen_ret ?_
                      refine xblock_ret ?_
                      refine xthen_ret ?_
                      refine fin_ret (resv2 rfl (rv_c (ty := 45) rfl (ld_blk_a m0_0 rfl rfl)) (rv_t (v := .int _ _) rfl)) ?_
                      refine ⟨.inr ⟨fun h => ?_, rfl⟩, hX⟩
                      have hn := h.new hkE hji
                      rw [jl_run (by omega)] at hn
                      first
                        | (have h1 := hn.1; unfold isJ at h1; omega)
                        | (exact hn.2 (hal ▸ hi14_18))
                        | (refine srtI_get (h.at_ k hkE).2 (i := i) (by omega) (by omega) ?_; rw [← hi1]; exact h14_33)
                    · skip
                      refine xp_pure (i := 19) rfl (by kernel_rfl) (by kernel_rfl) rfl rfl rfl (pv_pick_f (v := .bool _) rfl rfl rfl) ?_
                      refine xp_pure (i := 20) rfl (by kernel_rfl) (by kernel_rfl) rfl rfl rfl (pv_move (v := .bool _) rfl rfl) ?_
                      refine xp_pure (i := 21) rfl (by kernel_rfl) (by kernel_rfl) rfl rfl rfl (pv_move (v := .int _ _) rfl rfl) ?_
                      refine xp_dec (i := 22) rfl (by kernel_rfl) (by kernel_rfl) rfl rfl rfl (pv_gtr rfl rfl rfl) (fun h14_22 => ?_) (fun h14_22 => ?_)
                      · skip
                        refine xp_pure (i := 23) rfl (by kernel_rfl) (by kernel_rfl) rfl rfl rfl (pv_move (v := .bool _) rfl rfl) ?_
                        refine xp_pure (i := 24) rfl (by kernel_rfl) (by kernel_rfl) rfl rfl rfl (pv_move (v := .slice _ _ _) rfl rfl) ?_
                        refine xp_pure (i := 25) rfl (by kernel_rfl) (by kernel_rfl) rfl rfl rfl (pv_move (v := .int _ _) rfl rfl) ?_
                        refine xp_pure (i := 26) rfl (by kernel_rfl) (by kernel_rfl) rfl rfl rfl (pv_indexAddr_l rfl (sl_eq (hdr (by omega)).1) rfl (by omega)) ?_
                        refine xp_light (i := 27) rfl (by kernel_rfl) (by kernel_rfl) rfl rfl rfl (lv_load (v := .int _ _) rfl rfl (by exact ld_nth (k := i) ((hdr (by omega)).2.ext hX) (by omega))) ?_
                        refine xp_pure (i := 28) rfl (by kernel_rfl) (by kernel_rfl) rfl rfl rfl (pv_move (v := .slice _ _ _) rfl rfl) ?_
                        refine xp_pure (i := 29) rfl (by kernel_rfl) (by kernel_rfl) rfl rfl rfl (pv_move (v := .int _ _) rfl rfl) ?_
                        refine xp_pure (i := 30) rfl (by kernel_rfl) (by kernel_rfl) rfl rfl rfl (pv_sub rfl rfl rfl (fit_i64 (by omega))) ?_
                        refine xp_pure (i := 31) rfl (by kernel_rfl) (by kernel_rfl) rfl rfl rfl (pv_indexAddr_l rfl (sl_eq (hdr (by omega)).1) rfl (by omega)) ?_
                        refine xp_light (i := 32) rfl (by kernel_rfl) (by kernel_rfl) rfl rfl rfl (lv_load (v := .int _ _) rfl rfl (by exact ld_nth (k := ((i : Int) - 1).toNat) ((hdr (by omega)).2.ext hX) (by omega))) ?_
                        refine xp_dec (i := 33) rfl (by kernel_rfl) (by kernel_rfl) rfl rfl rfl (pv_lss rfl rfl rfl) (fun h14_33 => ?_) (fun h14_33 => ?_)
                        · skip
                          refine xp_pure (i := 34) rfl (by kernel_rfl) (by kernel_rfl) rfl rfl rfl (pv_pick_t (v := .bool _) rfl rfl rfl) ?_
                          refine xp_pure (i := 35) rfl (by kernel_rfl) (by kernel_rfl) rfl rfl rfl (pv_pick_f (v := .bool _) rfl rfl rfl) ?_
                          refine xp_done (by kernel_rfl) ?_
                          refine xthen_normal ?_
                          refine xc_cond_t rfl ?_
                          refine xc_seq ?_
                          refine xc_region ?_
                          refine xl_pure rfl rfl rfl (pv_build_s (cs := [.slice _ _ _, .slice _ _ _]) rfl rfl rfl) ?_
                          refine xl_store rfl rfl (hv_storeA (vs := [.slice _ _ _, .slice _ _ _]) rfl rfl rfl (m0_0) rfl (by rfl) rfl) ?_
                          rintro v15_1 H15_1 ⟨hU15_1, hZ15_1⟩
                          have mb := mb.off hU15_1.but (by first | exact nm0_0_3_2.symm | exact ⟨mb.ne m0_0 rfl⟩ | exact ⟨mb.ne m0_0 (by assumption)⟩ | exact ⟨Ne.symm (m0_0.ne mb (by assumption))⟩)
                          have ho := ho.offU m0_0 hU15_1.but (.inl rfl)
                          have hao := hao.offU m0_0 hU15_1.but (.inl rfl)
                          have hX := hX.upd hU15_1.but gb0_0
                          have m0_0 := hU15_1.blk
                          refine xl_pure rfl rfl rfl (pv_assign (v := .int _ _) rfl rfl) ?_
                          refine xl_nil ?_
                          refine xthen_normal ?_
                          refine xc_ret ?_
                          refine xthen_ret ?_
                          refine xblock_ret ?_
                          refine xthen_ret ?_
                          refine xthen_ret ?_
                          refine xblock_ret ?_
                          refine xthen_ret ?_
                          refine xblock_ret ?_
                          refine xthen_ret ?_
                          refine xthen_ret ?_
                          refine xblock_ret ?_
                          refine xthen_ret ?_
                          refine fin_ret (resv2 rfl (rv_c (ty := 45) rfl (ld_blk_a m0_0 rfl rfl)) (rv_t (v := .int _ _) rfl)) ?_
                          refine ⟨.inr ⟨fun h => ?_, rfl⟩, hX⟩
                          have hn := h.new hkE hji
                          rw [jl_run (by omega)] at hn
                          first
                            | (have h1 := hn.1; unfold isJ at h1; omega)
                            | (exact hn.2 (hal ▸ hi14_18))
                            | (refine srtI_get (h.at_ k hkE).2 (i := i) (by omega) (by omega) ?_; rw [← hi1]; exact h14_33)
                        · skip
                          refine xp_pure (i := 34) rfl (by kernel_rfl) (by kernel_rfl) rfl rfl rfl (pv_pick_t (v := .bool _) rfl rfl rfl) ?_
                          refine xp_pure (i := 35) rfl (by kernel_rfl) (by kernel_rfl) rfl rfl rfl (pv_pick_f (v := .bool _) rfl rfl rfl) ?_
                          refine xp_done (by kernel_rfl) ?_
                          refine xthen_normal ?_
                          refine xc_cond_f rfl ?_
                          refine xc_skip ?_
                          refine xthen_normal ?_
                          have hle := hg.le
                          rw [← hal] at hle
                          refine xc_region ?_
                          refine xl_pure rfl rfl rfl (pv_move (v := .slice _ _ _) rfl rfl) ?_
                          refine xl_pure rfl rfl rfl (pv_move (v := .slice _ _ _) rfl rfl) ?_
                          refine xl_pure rfl rfl rfl (pv_move (v := .int _ _) rfl rfl) ?_
                          refine xl_pure rfl rfl rfl (pv_indexAddr_l rfl (sl_eq (hdr (by omega)).1) rfl (by omega)) ?_
                          refine xl_light rfl rfl rfl (lv_load (v := .int _ _) rfl rfl (by exact ld_nth (k := i) ((hdr (by omega)).2.ext hX) (by omega))) ?_
                          refine xl_heavy rfl rfl rfl (hv_buildSlice (cs := [.int _ _]) rfl rfl rfl rfl rfl) ?_
                          rintro v16_5 H16_5 ⟨b16_5, rfl, hN16_5⟩
                          have gb16_5 := hX.fresh hN16_5
                          have nm0_0_16_5 := m0_0.apart hN16_5
                          have nmb_16_5 := mb.apart hN16_5
                          have pm16_5_hao := hao.apartN hN16_5
                          have m0_0 := m0_0.ext hN16_5.ext
                          have mb := mb.ext hN16_5.ext
                          have ho := ho.ext hN16_5.ext
                          have hao := hao.ext hN16_5.ext
                          have hX := hX.trans hN16_5.ext
                          have m16_5 := hN16_5.blk
                          refine xl_heavy rfl rfl rfl (hv_append rfl rfl hao rfl (m16_5.row) rfl (by simp [Value.oneCell']) rfl (by decide) (by omega) (by omega) hX.size) ?_
                          rintro v16_6 H16_6 ⟨hO16_6, hG16_6, -, hB16_6⟩
                          have m0_0 := m0_0.offT hao hG16_6 rfl
                          have mb := mb.offT hao hG16_6 rfl
                          have ho := ho.offG hao hG16_6 (by decide)
                          have hX := hao.grown hX hG16_6 (Nat.le_refl _)
                          obtain ⟨a16_6, c16_6, rfl⟩ := hO16_6.val
                          refine xl_pure rfl rfl rfl (pv_assign (v := .slice _ _ _) rfl rfl) ?_
                          refine xl_nil ?_
                          refine xblock_normal ?_
                          refine xthen_normal ?_
                          refine xc_region ?_
                          refine xl_pure rfl rfl rfl (pv_move (v := .int _ _) rfl rfl) ?_
                          refine xl_pure rfl rfl rfl (pv_add rfl rfl rfl (fit_i64 (by omega))) ?_
                          refine xl_pure rfl rfl rfl (pv_assign (v := .int _ _) rfl rfl) ?_
                          refine xl_nil ?_
                          refine xthen_normal ?_
                          exact ⟨(i + 1, al ++ [((gE E k).rn.getD i 0)], _), ⟨rfl, rfl, rfl, rfl, rfl, rfl, rfl, rfl, trivial⟩, ⟨by (try simp only); omega, hlk, hg.step hji (by rw [jl_run (by omega)]; exact ⟨by omega, by omega⟩) (by rw [jl_run (by omega), ← hal]; exact hi14_18), srtI_next hso (fun hz => by first | exact absurd hz (by omega) | (rw [← hi1]; exact h14_33)), by rw [jbP_next hji, ← hal, jl_run (by omega)], mb, m0_0, ho, by simpa [ints] using hO16_6, hX⟩, by (try simp only); omega⟩
                      · skip
                        refine xp_pure (i := 23) rfl (by kernel_rfl) (by kernel_rfl) rfl rfl rfl (pv_move (v := .bool _) rfl rfl) ?_
                        refine xp_skip (i := 24) rfl (by kernel_rfl) (by kernel_rfl) rfl rfl rfl ?_
                        refine xp_skip (i := 25) rfl (by kernel_rfl) (by kernel_rfl) rfl rfl rfl ?_
                        refine xp_skip (i := 26) rfl (by kernel_rfl) (by kernel_rfl) rfl rfl rfl ?_
                        refine xp_skip (i := 27) rfl (by kernel_rfl) (by kernel_rfl) rfl rfl rfl ?_
                        refine xp_skip (i := 28) rfl (by kernel_rfl) (by kernel_rfl) rfl rfl rfl ?_
                        refine xp_skip (i := 29) rfl (by kernel_rfl) (by kernel_rfl) rfl rfl rfl ?_
                        refine xp_skip (i := 30) rfl (by kernel_rfl) (by kernel_rfl) rfl rfl rfl ?_
                        refine xp_skip (i := 31) rfl (by kernel_rfl) (by kernel_rfl) rfl rfl rfl ?_
                        refine xp_skip (i := 32) rfl (by kernel_rfl) (by kernel_rfl) rfl rfl rfl ?_
                        refine xp_skip (i := 33) rfl (by kernel_rfl) (by kernel_rfl) rfl rfl rfl ?_
                        refine xp_pure (i := 34) rfl (by kernel_rfl) (by kernel_rfl) rfl rfl rfl (pv_pick_f (v := .bool _) rfl rfl rfl) ?_
                        refine xp_pure (i := 35) rfl (by kernel_rfl) (by kernel_rfl) rfl rfl rfl (pv_pick_f (v := .bool _) rfl rfl rfl) ?_
                        refine xp_done (by kernel_rfl) ?_
                        refine xthen_normal ?_
                        refine xc_cond_f rfl ?_
                        refine xc_skip ?_
                        refine xthen_normal ?_
                        have hle := hg.le
                        rw [← hal] at hle
                        refine xc_region ?_
                        refine xl_pure rfl rfl rfl (pv_move (v := .slice _ _ _) rfl rfl) ?_
                        refine xl_pure rfl rfl rfl (pv_move (v := .slice _ _ _) rfl rfl) ?_
                        refine xl_pure rfl rfl rfl (pv_move (v := .int _ _) rfl rfl) ?_
                        refine xl_pure rfl rfl rfl (pv_indexAddr_l rfl (sl_eq (hdr (by omega)).1) rfl (by omega)) ?_
                        refine xl_light rfl rfl rfl (lv_load (v := .int _ _) rfl rfl (by exact ld_nth (k := i) ((hdr (by omega)).2.ext hX) (by omega))) ?_
                        refine xl_heavy rfl rfl rfl (hv_buildSlice (cs := [.int _ _]) rfl rfl rfl rfl rfl) ?_
                        rintro v16_5 H16_5 ⟨b16_5, rfl, hN16_5⟩
                        have gb16_5 := hX.fresh hN16_5
                        have nm0_0_16_5 := m0_0.apart hN16_5
                        have nmb_16_5 := mb.apart hN16_5
                        have pm16_5_hao := hao.apartN hN16_5
                        have m0_0 := m0_0.ext hN16_5.ext
                        have mb := mb.ext hN16_5.ext
                        have ho := ho.ext hN16_5.ext
                        have hao := hao.ext hN16_5.ext
                        have hX := hX.trans hN16_5.ext
                        have m16_5 := hN16_5.blk
                        refine xl_heavy rfl rfl rfl (hv_append rfl rfl hao rfl (m16_5.row) rfl (by simp [Value.oneCell']) rfl (by decide) (by omega) (by omega) hX.size) ?_
                        rintro v16_6 H16_6 ⟨hO16_6, hG16_6, -, hB16_6⟩
                        have m0_0 := m0_0.offT hao hG16_6 rfl
                        have mb := mb.offT hao hG16_6 rfl
                        have ho := ho.offG hao hG16_6 (by decide)
                        have hX := hao.grown hX hG16_6 (Nat.le_refl _)
                        obtain ⟨a16_6, c16_6, rfl⟩ := hO16_6.val
                        refine xl_pure rfl rfl rfl (pv_assign (v := .slice _ _ _) rfl rfl) ?_
                        refine xl_nil ?_
                        refine xblock_normal ?_
                        refine xthen_normal ?_
                        refine xc_region ?_
                        refine xl_pure rfl rfl rfl (pv_move (v := .int _ _) rfl rfl) ?_
                        refine xl_pure rfl rfl rfl (pv_add rfl rfl rfl (fit_i64 (by omega))) ?_
                        refine xl_pure rfl rfl rfl (pv_assign (v := .int _ _) rfl rfl) ?_
                        refine xl_nil ?_
                        refine xthen_normal ?_
                        exact ⟨(i + 1, al ++ [((gE E k).rn.getD i 0)], _), ⟨rfl, rfl, rfl, rfl, rfl, rfl, rfl, rfl, trivial⟩, ⟨by (try simp only); omega, hlk, hg.step hji (by rw [jl_run (by omega)]; exact ⟨by omega, by omega⟩) (by rw [jl_run (by omega), ← hal]; exact hi14_18), srtI_next hso (fun hz => by first | exact absurd hz (by omega) | (rw [← hi1]; exact h14_33)), by rw [jbP_next hji, ← hal, jl_run (by omega)], mb, m0_0, ho, by simpa [ints] using hO16_6, hX⟩, by (try simp only); omega⟩
              · skip
                refine xl_nil ?_
                refine xthen_normal ?_
                refine xc_cond_f rfl ?_
                refine xc_exit ?_
                refine xthen_exit ?_
                refine xthen_exit ?_
                refine xblock_same ?_
                refine xthen_normal ?_
                refine xc_seq ?_
                refine xc_seq ?_
                refine xc_region ?_
                refine xl_pure rfl rfl rfl (pv_assign (v := .int _ _) rfl rfl) ?_
                refine xl_nil ?_
                refine xthen_normal ?_
                refine xc_block ?_
                refine xc_loop (τ := Nat × List Int × Value) (fun t => [(1, .slice xa E.length xc), (4, .pointer (some ⟨b0_0, 0, none⟩)), (6, .pointer (some ⟨b3_2, 0, none⟩)), (7, t.2.2), (8, .int .i64 (k : Nat)), (10, .slice (gE E k).wa (gE E k).wt.length (gE E k).wc), (12, .int .i64 (t.1 : Nat))]) (fun t H' => (t.1 ≤ (gE E k).wt.length) ∧ (lnOk ((sls l).getD k 0) (gE E k).rn (gE E k).wt) ∧ (LdG l E k ((gE E k).rn.length + t.1)) ∧ (SrtI (gE E k).rn (gE E k).rn.length) ∧ (t.2.1 = jbP E k ((gE E k).rn.length + t.1)) ∧ (Blk H' b3_2 [.slice la l.length lc, .slice va k vc] 45) ∧ (Blk H' b0_0 [.slice none 0 0, .slice none 0 0] 45) ∧ (Own H' H.size 40 2 (.slice va k vc) (k) (fL (E.take k))) ∧ (Own H' H.size 3 1 t.2.2 t.2.1.length (ints t.2.1)) ∧ (Ext H H')) (fun t H' => (gE E k).wt.length - t.1) (0, al, .slice va7 al.length vc7) ?_ ?_ ?_
                · exact ⟨rfl, rfl, rfl, rfl, rfl, rfl, rfl, trivial⟩
                · skip
                  exact ⟨Nat.zero_le _, hlk, by have e : i = (gE E k).rn.length := (by omega); rw [e] at hg; exact hg, by have e : i = (gE E k).rn.length := (by omega); rw [e] at hso; exact hso, by have e : i = (gE E k).rn.length := (by omega); rw [e] at hal; exact hal, mb, m0_0, ho, hao, hX⟩
                · intro σ
                  clear hX m0_0 mb ho hao hal hg hi hlk
                  rintro ⟨i, al, vo7⟩ Hl18 ⟨hi, hlk, hg, hso2, hal, mb, m0_0, ho, hao, hX⟩
                  replace hi : i ≤ (gE E k).wt.length := hi
                  replace hlk : lnOk ((sls l).getD k 0) (gE E k).rn (gE E k).wt := hlk
                  replace hg : LdG l E k ((gE E k).rn.length + i) := hg
                  replace hso2 : SrtI (gE E k).rn (gE E k).rn.length := hso2
                  replace hal : al = jbP E k ((gE E k).rn.length + i) := hal
                  replace mb : Blk Hl18 b3_2 [.slice la l.length lc, .slice va k vc] 45 := mb
                  replace m0_0 : Blk Hl18 b0_0 [.slice none 0 0, .slice none 0 0] 45 := m0_0
                  replace ho : Own Hl18 H.size 40 2 (.slice va k vc) (k) (fL (E.take k)) := ho
                  replace hao : Own Hl18 H.size 3 1 vo7 al.length (ints al) := hao
                  replace hX : Ext H Hl18 := hX
                  obtain ⟨va7, vc7, rfl⟩ := hao.val
                  show XC _ _ _ (upds σ [(1, .slice xa E.length xc), (4, .pointer (some ⟨b0_0, 0, none⟩)), (6, .pointer (some ⟨b3_2, 0, none⟩)), (7, .slice va7 al.length vc7), (8, .int .i64 (k : Nat)), (10, .slice (gE E k).wa (gE E k).wt.length (gE E k).wc), (12, .int .i64 (i : Nat))]) _
                  refine xc_seq ?_
                  refine xc_seq ?_
                  refine xc_region ?_
                  refine xl_pure rfl rfl rfl (pv_move (v := .int _ _) rfl rfl) ?_
                  refine xl_pure rfl rfl rfl (pv_move (v := .slice _ _ _) rfl rfl) ?_
                  refine xl_pure rfl rfl rfl (pv_len_l rfl rfl) ?_
                  refine xl_dec rfl rfl rfl (pv_lss rfl rfl rfl) (fun h18_3 => ?_) (fun h18_3 => ?_)
                  · skip
                    refine xl_nil ?_
                    refine xthen_normal ?_
                    refine xc_cond_t rfl ?_
                    refine xc_skip ?_
                    refine xthen_normal ?_
                    refine xc_seq ?_
                    refine xc_block ?_
                    refine xc_seq ?_
                    refine xc_seq ?_
                    have hji : (gE E k).rn.length + i < (jlE (gE E k)).length := by rw [jl_len]; omega
                    refine xc_region ?_
                    refine xl_pure rfl rfl rfl (pv_move (v := .slice _ _ _) rfl rfl) ?_
                    refine xl_pure rfl rfl rfl (pv_move (v := .int _ _) rfl rfl) ?_
                    refine xl_pure rfl rfl rfl (pv_indexAddr_l rfl (sl_eq (hdw (by omega)).1) rfl (by omega)) ?_
                    refine xl_light rfl rfl rfl (lv_load (v := .int _ _) rfl rfl (by exact ld_nth (k := i) ((hdw (by omega)).2.ext hX) (by omega))) ?_
                    refine xl_dec rfl rfl rfl (pv_lss rfl rfl rfl) (fun h20_4 => ?_) (fun h20_4 => ?_)
                    · skip
                      refine xl_pure rfl rfl rfl (pv_move (v := .bool _) rfl rfl) ?_
                      refine xl_skip rfl rfl rfl ?_
                      refine xl_skip rfl rfl rfl ?_
                      refine xl_skip rfl rfl rfl ?_
                      refine xl_skip rfl rfl rfl ?_
                      refine xl_skip rfl rfl rfl ?_
                      refine xl_pure rfl rfl rfl (pv_pick_t (v := .bool _) rfl rfl rfl) ?_
                      refine xl_pure rfl rfl rfl (pv_move (v := .bool _) rfl rfl) ?_
                      refine xl_skip rfl rfl rfl ?_
                      refine xl_skip rfl rfl rfl ?_
                      refine xl_skip rfl rfl rfl ?_
                      refine xl_skip rfl rfl rfl ?_
                      refine xl_skip rfl rfl rfl ?_
                      refine xl_skip rfl rfl rfl ?_
                      refine xl_pure rfl rfl rfl (pv_pick_t (v := .bool _) rfl rfl rfl) ?_
                      refine xl_nil ?_
                      refine xthen_normal ?_
                      refine xc_cond_t rfl ?_
                      refine xc_seq ?_
                      refine xc_region ?_
                      refine xl_pure rfl rfl rfl (pv_build_s (cs := [.slice _ _ _, .slice _ _ _]) rfl rfl rfl) ?_
                      refine xl_store rfl rfl (hv_storeA (vs := [.slice _ _ _, .slice _ _ _]) rfl rfl rfl (m0_0) rfl (by rfl) rfl) ?_
                      rintro v21_1 H21_1 ⟨hU21_1, hZ21_1⟩
                      have mb := mb.off hU21_1.but (by first | exact nm0_0_3_2.symm | exact ⟨mb.ne m0_0 rfl⟩ | exact ⟨mb.ne m0_0 (by assumption)⟩ | exact ⟨Ne.symm (m0_0.ne mb (by assumption))⟩)
                      have ho := ho.offU m0_0 hU21_1.but (.inl rfl)
                      have hao := hao.offU m0_0 hU21_1.but (.inl rfl)
                      have hX := hX.upd hU21_1.but gb0_0
                      have m0_0 := hU21_1.blk
                      refine xl_pure rfl rfl rfl (pv_assign (v := .int _ _) rfl rfl) ?_
                      refine xl_nil ?_
                      refine xthen_normal ?_
                      refine xc_ret ?_
                      refine xthen_ret ?_
                      refine xblock_ret ?_
                      refine xthen_ret ?_
                      refine xthen_ret ?_
                      refine xblock_ret ?_
                      refine xthen_ret ?_
                      refine xblock_ret ?_
                      refine xthen_ret ?_
                      refine xthen_ret ?_
                      refine xblock_ret ?_
                      refine xthen_ret ?_
                      refine fin_ret (resv2 rfl (rv_c (ty := 45) rfl (ld_blk_a m0_0 rfl rfl)) (rv_t (v := .int _ _) rfl)) ?_
                      refine ⟨.inr ⟨fun h => ?_, rfl⟩, hX⟩
                      have hn := h.new hkE hji
                      rw [jl_wait] at hn
                      first
                        | (have h1 := hn.1; unfold isJ at h1; omega)
                        | (exact hn.2 (hal ▸ hi20_18))
                    · skip
                      refine xl_pure rfl rfl rfl (pv_move (v := .bool _) rfl rfl) ?_
                      refine xl_pure rfl rfl rfl (pv_move (v := .slice _ _ _) rfl rfl) ?_
                      refine xl_pure rfl rfl rfl (pv_move (v := .int _ _) rfl rfl) ?_
                      refine xl_pure rfl rfl rfl (pv_indexAddr_l rfl (sl_eq (hdw (by omega)).1) rfl (by omega)) ?_
                      refine xl_light rfl rfl rfl (lv_load (v := .int _ _) rfl rfl (by exact ld_nth (k := i) ((hdw (by omega)).2.ext hX) (by omega))) ?_
                      refine xl_dec rfl rfl rfl (pv_gtr rfl rfl rfl) (fun h20_10 => ?_) (fun h20_10 => ?_)
                      · skip
                        refine xl_pure rfl rfl rfl (pv_pick_f (v := .bool _) rfl rfl rfl) ?_
                        refine xl_pure rfl rfl rfl (pv_move (v := .bool _) rfl rfl) ?_
                        refine xl_skip rfl rfl rfl ?_
                        refine xl_skip rfl rfl rfl ?_
                        refine xl_skip rfl rfl rfl ?_
                        refine xl_skip rfl rfl rfl ?_
                        refine xl_skip rfl rfl rfl ?_
                        refine xl_skip rfl rfl rfl ?_
                        refine xl_pure rfl rfl rfl (pv_pick_t (v := .bool _) rfl rfl rfl) ?_
                        refine xl_nil ?_
                        refine xthen_normal ?_
                        refine xc_cond_t rfl ?_
                        refine xc_seq ?_
                        refine xc_region ?_
                        refine xl_pure rfl rfl rfl (pv_build_s (cs := [.slice _ _ _, .slice _ _ _]) rfl rfl rfl) ?_
                        refine xl_store rfl rfl (hv_storeA (vs := [.slice _ _ _, .slice _ _ _]) rfl rfl rfl (m0_0) rfl (by rfl) rfl) ?_
                        rintro v21_1 H21_1 ⟨hU21_1, hZ21_1⟩
                        have mb := mb.off hU21_1.but (by first | exact nm0_0_3_2.symm | exact ⟨mb.ne m0_0 rfl⟩ | exact ⟨mb.ne m0_0 (by assumption)⟩ | exact ⟨Ne.symm (m0_0.ne mb (by assumption))⟩)
                        have ho := ho.offU m0_0 hU21_1.but (.inl rfl)
                        have hao := hao.offU m0_0 hU21_1.but (.inl rfl)
                        have hX := hX.upd hU21_1.but gb0_0
                        have m0_0 := hU21_1.blk
                        refine xl_pure rfl rfl rfl (pv_assign (v := .int _ _) rfl rfl) ?_
                        refine xl_nil ?_
                        refine xthen_normal ?_
                        refine xc_ret ?_
                        refine xthen_ret ?_
                        refine xblock_ret ?_
                        refine xthen_ret ?_
                        refine xthen_ret ?_
                        refine xblock_ret ?_
                        refine xthen_ret ?_
                        refine xblock_ret ?_
                        refine xthen_ret ?_
                        refine xthen_ret ?_
                        refine xblock_ret ?_
                        refine xthen_ret ?_
                        refine fin_ret (resv2 rfl (rv_c (ty := 45) rfl (ld_blk_a m0_0 rfl rfl)) (rv_t (v := .int _ _) rfl)) ?_
                        refine ⟨.inr ⟨fun h => ?_, rfl⟩, hX⟩
                        have hn := h.new hkE hji
                        rw [jl_wait] at hn
                        first
                          | (have h1 := hn.1; unfold isJ at h1; omega)
                          | (exact hn.2 (hal ▸ hi20_18))
                      · skip
                        refine xl_pure rfl rfl rfl (pv_pick_f (v := .bool _) rfl rfl rfl) ?_
                        refine xl_pure rfl rfl rfl (pv_move (v := .bool _) rfl rfl) ?_
                        refine xl_pure rfl rfl rfl (pv_move (v := .slice _ _ _) rfl rfl) ?_
                        refine xl_pure rfl rfl rfl (pv_move (v := .slice _ _ _) rfl rfl) ?_
                        refine xl_pure rfl rfl rfl (pv_move (v := .int _ _) rfl rfl) ?_
                        refine xl_pure rfl rfl rfl (pv_indexAddr_l rfl (sl_eq (hdw (by omega)).1) rfl (by omega)) ?_
                        refine xl_light rfl rfl rfl (lv_load (v := .int _ _) rfl rfl (by exact ld_nth (k := i) ((hdw (by omega)).2.ext hX) (by omega))) ?_
                        refine xl_heavy rfl rfl rfl (hv_call (g := 39) rfl rfl (din (own_Ints hao) (by have := hg.le; rw [← hal] at this; omega) (((gE E k).wt.getD i 0))) rfl) ?_
                        rintro v20_18 H20_18 ⟨hv20_18, rfl⟩
                        rcases hv20_18 with ⟨hi20_18, rfl⟩ | ⟨hi20_18, rfl⟩
                        · skip
                          refine xl_pure rfl rfl rfl (pv_pick_f (v := .bool _) rfl rfl rfl) ?_
                          refine xl_nil ?_
                          refine xthen_normal ?_
                          refine xc_cond_t rfl ?_
                          refine xc_seq ?_
                          refine xc_region ?_
                          refine xl_pure rfl rfl rfl (pv_build_s (cs := [.slice _ _ _, .slice _ _ _]) rfl rfl rfl) ?_
                          refine xl_store rfl rfl (hv_storeA (vs := [.slice _ _ _, .slice _ _ _]) rfl rfl rfl (m0_0) rfl (by rfl) rfl) ?_
                          rintro v21_1 H21_1 ⟨hU21_1, hZ21_1⟩
                          have mb := mb.off hU21_1.but (by first | exact nm0_0_3_2.symm | exact ⟨mb.ne m0_0 rfl⟩ | exact ⟨mb.ne m0_0 (by assumption)⟩ | exact ⟨Ne.symm (m0_0.ne mb (by assumption))⟩)
                          have ho := ho.offU m0_0 hU21_1.but (.inl rfl)
                          have hao := hao.offU m0_0 hU21_1.but (.inl rfl)
                          have hX := hX.upd hU21_1.but gb0_0
                          have m0_0 := hU21_1.blk
                          refine xl_pure rfl rfl rfl (pv_assign (v := .int _ _) rfl rfl) ?_
                          refine xl_nil ?_
                          refine xthen_normal ?_
                          refine xc_ret ?_
                          refine xthen_ret ?_
                          refine xblock_ret ?_
                          refine xthen_ret ?_
                          refine xthen_ret ?_
                          refine xblock_ret ?_
                          refine xthen_ret ?_
                          refine xblock_ret ?_
                          refine xthen_ret ?_
                          refine xthen_ret ?_
                          refine xblock_ret ?_
                          refine xthen_ret ?_
                          refine fin_ret (resv2 rfl (rv_c (ty := 45) rfl (ld_blk_a m0_0 rfl rfl)) (rv_t (v := .int _ _) rfl)) ?_
                          refine ⟨.inr ⟨fun h => ?_, rfl⟩, hX⟩
                          have hn := h.new hkE hji
                          rw [jl_wait] at hn
                          first
                            | (have h1 := hn.1; unfold isJ at h1; omega)
                            | (exact hn.2 (hal ▸ hi20_18))
                        · skip
                          refine xl_pure rfl rfl rfl (pv_pick_f (v := .bool _) rfl rfl rfl) ?_
                          refine xl_nil ?_
                          refine xthen_normal ?_
                          refine xc_cond_f rfl ?_
                          refine xc_skip ?_
                          refine xthen_normal ?_
                          have hle := hg.le
                          rw [← hal] at hle
                          refine xc_region ?_
                          refine xl_pure rfl rfl rfl (pv_move (v := .slice _ _ _) rfl rfl) ?_
                          refine xl_pure rfl rfl rfl (pv_move (v := .slice _ _ _) rfl rfl) ?_
                          refine xl_pure rfl rfl rfl (pv_move (v := .int _ _) rfl rfl) ?_
                          refine xl_pure rfl rfl rfl (pv_indexAddr_l rfl (sl_eq (hdw (by omega)).1) rfl (by omega)) ?_
                          refine xl_light rfl rfl rfl (lv_load (v := .int _ _) rfl rfl (by exact ld_nth (k := i) ((hdw (by omega)).2.ext hX) (by omega))) ?_
                          refine xl_heavy rfl rfl rfl (hv_buildSlice (cs := [.int _ _]) rfl rfl rfl rfl rfl) ?_
                          rintro v22_5 H22_5 ⟨b22_5, rfl, hN22_5⟩
                          have gb22_5 := hX.fresh hN22_5
                          have nm0_0_22_5 := m0_0.apart hN22_5
                          have nmb_22_5 := mb.apart hN22_5
                          have pm22_5_hao := hao.apartN hN22_5
                          have m0_0 := m0_0.ext hN22_5.ext
                          have mb := mb.ext hN22_5.ext
                          have ho := ho.ext hN22_5.ext
                          have hao := hao.ext hN22_5.ext
                          have hX := hX.trans hN22_5.ext
                          have m22_5 := hN22_5.blk
                          refine xl_heavy rfl rfl rfl (hv_append rfl rfl hao rfl (m22_5.row) rfl (by simp [Value.oneCell']) rfl (by decide) (by omega) (by omega) hX.size) ?_
                          rintro v22_6 H22_6 ⟨hO22_6, hG22_6, -, hB22_6⟩
                          have m0_0 := m0_0.offT hao hG22_6 rfl
                          have mb := mb.offT hao hG22_6 rfl
                          have ho := ho.offG hao hG22_6 (by decide)
                          have hX := hao.grown hX hG22_6 (Nat.le_refl _)
                          obtain ⟨a22_6, c22_6, rfl⟩ := hO22_6.val
                          refine xl_pure rfl rfl rfl (pv_assign (v := .slice _ _ _) rfl rfl) ?_
                          refine xl_nil ?_
                          refine xblock_normal ?_
                          refine xthen_normal ?_
                          refine xc_region ?_
                          refine xl_pure rfl rfl rfl (pv_move (v := .int _ _) rfl rfl) ?_
                          refine xl_pure rfl rfl rfl (pv_add rfl rfl rfl (fit_i64 (by omega))) ?_
                          refine xl_pure rfl rfl rfl (pv_assign (v := .int _ _) rfl rfl) ?_
                          refine xl_nil ?_
                          refine xthen_normal ?_
                          exact ⟨(i + 1, al ++ [((gE E k).wt.getD i 0)], _), ⟨rfl, rfl, rfl, rfl, rfl, rfl, rfl, trivial⟩, ⟨by (try simp only); omega, hlk, hg.step hji (by rw [jl_wait]; exact ⟨by omega, by omega⟩) (by rw [jl_wait, ← hal]; exact hi20_18), hso2, by rw [show (gE E k).rn.length + (i + 1) = (gE E k).rn.length + i + 1 from rfl, jbP_next hji, ← hal, jl_wait], mb, m0_0, ho, by simpa [ints] using hO22_6, hX⟩, by (try simp only); omega⟩
                  · skip
                    refine xl_nil ?_
                    refine xthen_normal ?_
                    refine xc_cond_f rfl ?_
                    refine xc_exit ?_
                    refine xthen_exit ?_
                    refine xthen_exit ?_
                    refine xblock_same ?_
                    refine xthen_normal ?_
                    refine xp_start rfl (by repeat (first | with_reducible exact np_fin | with_reducible exact np_ret | with_reducible refine np_then ?_ | with_reducible refine np_block ?_)) (by kernel_rfl) ?_
                    refine xp_pure (i := 0) rfl (by kernel_rfl) (by kernel_rfl) rfl rfl rfl (pv_fieldAddr rfl rfl) ?_
                    refine xp_light (i := 1) rfl (by kernel_rfl) (by kernel_rfl) rfl rfl rfl (lv_load (v := .slice _ _ _) rfl rfl (ld_blk mb rfl)) ?_
                    refine xp_pure (i := 2) rfl (by kernel_rfl) (by kernel_rfl) rfl rfl rfl (pv_move (v := .slice _ _ _) rfl rfl) ?_
                    refine xp_pure (i := 3) rfl (by kernel_rfl) (by kernel_rfl) rfl rfl rfl (pv_move (v := .int _ _) rfl rfl) ?_
                    refine xp_pure (i := 4) rfl (by kernel_rfl) (by kernel_rfl) rfl rfl rfl (pv_indexAddr_l rfl (sl_eq (hdx (by omega)).1) rfl (by omega)) ?_
                    refine xp_light (i := 5) rfl (by kernel_rfl) (by kernel_rfl) rfl rfl rfl (lv_load (v := .agg _) rfl rfl (by exact ldLs (k := k) ((hdx (by omega)).2.ext hX) (by omega))) ?_
                    refine xp_heavy (i := 6) (by kernel_rfl) ?_
                    refine xph_val rfl rfl rfl rfl (hv_buildSlice (cs := [.slice _ _ _, .slice _ _ _]) rfl rfl rfl rfl rfl) (pd (by kernel_rfl) (pk (by kernel_rfl) pn)) ?_
                    rintro v23_6 H23_6 ⟨b23_6, rfl, hN23_6⟩
                    have gb23_6 := hX.fresh hN23_6
                    have nm0_0_23_6 := m0_0.apart hN23_6
                    have nmb_23_6 := mb.apart hN23_6
                    have pm23_6_ho := ho.apartN hN23_6
                    have m0_0 := m0_0.ext hN23_6.ext
                    have mb := mb.ext hN23_6.ext
                    have ho := ho.ext hN23_6.ext
                    have hao := hao.ext hN23_6.ext
                    have hX := hX.trans hN23_6.ext
                    have m23_6 := hN23_6.blk
                    refine ⟨(okc (lv_load (v := .slice _ _ _) rfl rfl (ld_blk mb rfl)) okn), ?_⟩
                    refine xp_heavy (i := 7) (by kernel_rfl) ?_
                    refine xph_val rfl rfl rfl rfl (hv_append (size := 2) rfl rfl ho rfl m23_6.row rfl (by simp [Value.oneCell']) rfl (by decide) (by omega) (by omega) hX.size) (pd (by kernel_rfl) pn) ?_
                    rintro v23_7 H23_7 ⟨hO23_7, hG23_7, -, hB23_7⟩
                    have m0_0 := m0_0.offT ho hG23_7 rfl
                    have mb := mb.offT ho hG23_7 rfl
                    have hao := hao.offG ho hG23_7 (by decide)
                    have hX := ho.grown hX hG23_7 (Nat.le_refl _)
                    obtain ⟨a23_7, c23_7, rfl⟩ := hO23_7.val
                    refine ⟨okn, ?_⟩
                    refine xp_pure (i := 8) rfl (by kernel_rfl) (by kernel_rfl) rfl rfl rfl (pv_fieldAddr rfl rfl) ?_
                    refine xp_heavy (i := 9) (by kernel_rfl) ?_
                    refine xph_store rfl rfl rfl (hv_store (vs := [.slice _ _ _]) rfl rfl rfl (mb) rfl (Nat.le_of_ble_eq_true rfl) rfl) pn ?_
                    rintro v23_9 H23_9 ⟨hU23_9, hZ23_9⟩
                    have m0_0 := m0_0.off hU23_9.but (by first | exact nm0_0_3_2 | exact ⟨m0_0.ne mb rfl⟩ | exact ⟨m0_0.ne mb (by assumption)⟩ | exact ⟨Ne.symm (mb.ne m0_0 (by assumption))⟩)
                    have hao := hao.offU mb hU23_9.but (.inl rfl)
                    have hO23_7 := hO23_7.offU mb hU23_9.but (.inl rfl)
                    have hX := hX.upd hU23_9.but gb3_2
                    have mb := hU23_9.blk
                    refine ⟨okn, ?_⟩
                    refine xp_done (by kernel_rfl) ?_
                    refine xblock_normal ?_
                    refine xthen_normal ?_
                    refine xc_region ?_
                    refine xl_pure rfl rfl rfl (pv_move (v := .int _ _) rfl rfl) ?_
                    refine xl_pure rfl rfl rfl (pv_add rfl rfl rfl (fit_i64 (by omega))) ?_
                    refine xl_pure rfl rfl rfl (pv_assign (v := .int _ _) rfl rfl) ?_
                    refine xl_nil ?_
                    refine xthen_normal ?_
                    exact ⟨(k + 1, _, _, al, _), ⟨rfl, rfl, rfl, rfl, rfl, trivial⟩, ⟨by (try simp only); omega, hg.done hkE (by rw [jl_len]; omega) (by omega) hlk hso2, by rw [hal]; exact jbP_end hkE (by rw [jl_len]; omega), mb, m0_0, by rw [take_E hkE]; exact hO23_7, hao, hX⟩, by (try simp only); omega⟩
        · skip
          refine xl_nil ?_
          refine xthen_normal ?_
          refine xc_cond_f rfl ?_
          refine xc_exit ?_
          refine xthen_exit ?_
          refine xthen_exit ?_
          refine xblock_same ?_
          refine xthen_normal ?_
          refine xc_seq ?_
          refine xc_region ?_
          refine xl_light rfl rfl rfl (lv_load (v := .agg _) rfl rfl (ld_blk_a mb rfl rfl)) ?_
          refine xl_store rfl rfl (hv_storeA (vs := [.slice _ _ _, .slice _ _ _]) rfl rfl rfl (m0_0) rfl (by rfl) rfl) ?_
          rintro v24_1 H24_1 ⟨hU24_1, hZ24_1⟩
          have mb := mb.off hU24_1.but (by first | exact nm0_0_3_2.symm | exact ⟨mb.ne m0_0 rfl⟩ | exact ⟨mb.ne m0_0 (by assumption)⟩ | exact ⟨Ne.symm (m0_0.ne mb (by assumption))⟩)
          have ho := ho.offU m0_0 hU24_1.but (.inl rfl)
          have hao := hao.offU m0_0 hU24_1.but (.inl rfl)
          have hX := hX.upd hU24_1.but gb0_0
          have m0_0 := hU24_1.blk
          refine xl_pure rfl rfl rfl (pv_assign (v := .int _ _) rfl rfl) ?_
          refine xl_nil ?_
          refine xthen_normal ?_
          refine xc_ret ?_
          refine fin_ret (resv2 rfl (rv_c (ty := 45) rfl (ld_blk_a m0_0 rfl rfl)) (rv_t (v := .int _ _) rfl)) ?_
          have hke : k = E.length := by omega
          have hld := hg.all hke hi1_1 h2l
          subst hke
          rw [List.take_length] at ho
          obtain ⟨g1, g2, g3⟩ := own_LE ho hG (hE.ext hX).1
          exact ⟨.inl ⟨hld, _, _, rfl, E, rfl, g1, g3⟩, hX⟩
    · skip
      refine xl_pure rfl rfl rfl (pv_pick_f (v := .bool _) rfl rfl rfl) ?_
      refine xl_nil ?_
      refine xthen_normal ?_
      refine xc_cond_t rfl ?_
      refine xc_seq ?_
      refine xc_region ?_
      refine xl_pure rfl rfl rfl (pv_build_s (cs := [.slice _ _ _, .slice _ _ _]) rfl rfl rfl) ?_
      refine xl_store rfl rfl (hv_storeA (vs := [.slice _ _ _, .slice _ _ _]) rfl rfl rfl (m0_0) rfl (by rfl) rfl) ?_
      rintro v2_1 H2_1 ⟨hU2_1, hZ2_1⟩
      have hX := hX.upd hU2_1.but gb0_0
      have m0_0 := hU2_1.blk
      refine xl_pure rfl rfl rfl (pv_assign (v := .int _ _) rfl rfl) ?_
      refine xl_nil ?_
      refine xthen_normal ?_
      refine xc_ret ?_
      refine xthen_ret ?_
      refine fin_ret (resv2 rfl (rv_c (ty := 45) rfl (ld_blk_a m0_0 rfl rfl)) (rv_t (v := .int _ _) rfl)) ?_
      first
        | exact ⟨.inr ⟨fun h => hi1_1 h.ok, rfl⟩, hX⟩
        | exact ⟨.inr ⟨fun h => by have := h.len; omega, rfl⟩, hX⟩
  · skip
    refine xl_pure rfl rfl rfl (pv_not rfl rfl) ?_
    refine xl_pure rfl rfl rfl (pv_move (v := .bool _) rfl rfl) ?_
    refine xl_skip rfl rfl rfl ?_
    refine xl_skip rfl rfl rfl ?_
    refine xl_skip rfl rfl rfl ?_
    refine xl_skip rfl rfl rfl ?_
    refine xl_skip rfl rfl rfl ?_
    refine xl_skip rfl rfl rfl ?_
    refine xl_pure rfl rfl rfl (pv_pick_t (v := .bool _) rfl rfl rfl) ?_
    refine xl_nil ?_
    refine xthen_normal ?_
    refine xc_cond_t rfl ?_
    refine xc_seq ?_
    refine xc_region ?_
    refine xl_pure rfl rfl rfl (pv_build_s (cs := [.slice _ _ _, .slice _ _ _]) rfl rfl rfl) ?_
    refine xl_store rfl rfl (hv_storeA (vs := [.slice _ _ _, .slice _ _ _]) rfl rfl rfl (m0_0) rfl (by rfl) rfl) ?_
    rintro v2_1 H2_1 ⟨hU2_1, hZ2_1⟩
    have hX := hX.upd hU2_1.but gb0_0
    have m0_0 := hU2_1.blk
    refine xl_pure rfl rfl rfl (pv_assign (v := .int _ _) rfl rfl) ?_
    refine xl_nil ?_
    refine xthen_normal ?_
    refine xc_ret ?_
    refine xthen_ret ?_
    refine fin_ret (resv2 rfl (rv_c (ty := 45) rfl (ld_blk_a m0_0 rfl rfl)) (rv_t (v := .int _ _) rfl)) ?_
    first
      | exact ⟨.inr ⟨fun h => hi1_1 h.ok, rfl⟩, hX⟩
      | exact ⟨.inr ⟨fun h => by have := h.len; omega, rfl⟩, hX⟩

theorem dloadn {O : Outer} {H : Heap} {la xa : Option Addr} {lc xc n : Nat} {l : List (List Int)} {E : List Se} {G : Nat → Prop} {B : Nat} (hn : E.length = n) (hs : Rows H la 4 l) (hl : l.length < 1000000) (hE : LE B H G xa E) (hEl : E.length < 1000000) (hEs : ∀ e ∈ E, e.rn.length < 1000000 ∧ e.wt.length < 1000000) (hG : ∀ i, G i → i < H.size) :
  FnC Try.prog 20 #[.slice la l.length lc, .slice xa n xc] O H (fun v H' => ((ldOk l E ∧ ∃ a' c', v = .tuple #[.agg #[.slice la l.length lc, .slice a' n c'], .int .i64 0] ∧ LX B H' G a' c' (E.map lnP)) ∨ (¬ ldOk l E ∧ v = .tuple #[.agg #[.slice none 0 0, .slice none 0 0], .int .i64 1])) ∧ Ext H H') := by
  subst hn; exact dload hs hl hE hEl hEs hG

theorem dnew {O : Outer} {H : Heap} {la : Option Addr} {lc : Nat} {l : List (List Int)} {G : Nat → Prop} {B : Nat} (hs : Rows H la 4 l) (hl : l.length < 1000000) (hG : ∀ i, G i → i < H.size) (hB : B ≤ H.size) :
    FnC Try.prog 12 #[.slice la l.length lc] O H (fun v H' => ((okN l ∧ ∃ a' c', v = .tuple #[.agg #[.slice la l.length lc, .slice a' (2 * l.length) c'], .int .i64 0] ∧ LX B H' G a' c' ((newS l).map lnS)) ∨ (¬ okN l ∧ v = .tuple #[.agg #[.slice none 0 0, .slice none 0 0], .int .i64 1])) ∧ Ext H H') := by
  refine fn_enter (A := [.slice la l.length lc]) Try.func12 rfl rfl ?_
  have hX := Ext.refl H
  refine xc_seq ?_
  refine xc_region ?_
  refine xl_heavy rfl rfl rfl (hv_alloc rfl rfl) ?_
  rintro v0_0 H0_0 ⟨b0_0, rfl, hN0_0⟩
  have gb0_0 := hX.fresh hN0_0
  have hX := hX.trans hN0_0.ext
  have m0_0 := hN0_0.blk
  refine xl_pure rfl rfl rfl (pv_assign (v := .int _ _) rfl rfl) ?_
  refine xl_nil ?_
  refine xthen_normal ?_
  refine xc_seq ?_
  refine xc_seq ?_
  have hbB : B ≤ b0_0 := Nat.le_trans hB gb0_0.le
  refine xc_region ?_
  refine xl_pure rfl rfl rfl (pv_move (v := .slice _ _ _) rfl rfl) ?_
  refine xl_heavy rfl rfl rfl (hv_call (g := 30) rfl rfl (dmay (hs.ext hX) hl) rfl) ?_
  rintro v1_1 H1_1 ⟨hv1_1, rfl⟩
  rcases hv1_1 with ⟨hi1_1, rfl⟩ | ⟨hi1_1, rfl⟩
  · skip
    refine xl_pure rfl rfl rfl (pv_not rfl rfl) ?_
    refine xl_nil ?_
    refine xthen_normal ?_
    refine xc_cond_f rfl ?_
    refine xc_skip ?_
    refine xthen_normal ?_
    refine xc_seq ?_
    refine xc_region ?_
    refine xl_pure rfl rfl rfl (pv_move (v := .slice _ _ _) rfl rfl) ?_
    refine xl_pure rfl rfl rfl (pv_move (v := .slice _ _ _) rfl rfl) ?_
    refine xl_pure rfl rfl rfl (pv_len_l rfl rfl) ?_
    refine xl_pure rfl rfl rfl (pv_mul rfl rfl rfl (fit_i64 (by omega))) ?_
    refine xl_heavy rfl rfl rfl (hv_makeSlice (n := 2 * l.length) rfl rfl rfl (by omega) (by omega)) ?_
    rintro v3_4 H3_4 ⟨b3_4, rfl, hN3_4⟩
    have gb3_4 := hX.fresh hN3_4
    have nm3_4 := m0_0.apart hN3_4
    have m0_0 := m0_0.ext hN3_4.ext
    have hX := hX.trans hN3_4.ext
    have m3_4 := hN3_4.blk
    rw [made_L] at m3_4
    refine xl_heavy rfl rfl rfl (hv_call (g := 20) rfl rfl (dloadn (B := B) (by simp) (hs.ext hX) hl (LE.zero (G := G) m3_4 (fun h => by have := hG _ h; have := gb3_4.le; omega)) (by have := hi1_1.1; simp; omega) (fun e he => by rw [(List.mem_replicate.1 he).2]; exact ⟨by decide, by decide⟩) (fun i h => Nat.lt_of_lt_of_le (hG i h) hX.size)) rfl) ?_
    rintro v3_5 H3_5 ⟨hv3_5, hE3_5⟩
    have m0_0 := m0_0.ext hE3_5
    have hX := hX.trans hE3_5
    replace hv3_5 := hv3_5.resolve_right (fun h => h.1 (ld_zero hi1_1))
    obtain ⟨hld3_5, a3_5, c3_5, rfl, hL3_5⟩ := hv3_5
    refine xl_pure rfl rfl rfl (pv_extract (v := .agg _) rfl rfl rfl) ?_
    refine xl_pure rfl rfl rfl (pv_extract (v := .int _ _) rfl rfl rfl) ?_
    refine xl_store rfl rfl (hv_storeA (vs := [.slice _ _ _, .slice _ _ _]) rfl rfl rfl (m0_0) rfl (by rfl) rfl) ?_
    rintro v3_8 H3_8 ⟨hU3_8, hZ3_8⟩
    have hL3_5 := hL3_5.offT m0_0 hU3_8.but (by first | rfl | assumption)
    have hX := hX.upd hU3_8.but gb0_0
    have m0_0 := hU3_8.blk
    refine xl_pure rfl rfl rfl (pv_assign (v := .int _ _) rfl rfl) ?_
    refine xl_nil ?_
    refine xthen_normal ?_
    refine xc_ret ?_
    refine fin_ret (resv2 rfl (rv_c (ty := 45) rfl (ld_blk_a m0_0 rfl rfl)) (rv_t (v := .int _ _) rfl)) ?_
    have e : ((List.replicate (2 * l.length) e0)).map lnP = (newS l).map lnS := new_ln
    rw [e] at hL3_5
    exact ⟨.inl ⟨hi1_1, _, _, rfl, hL3_5⟩, hX⟩
  · skip
    refine xl_pure rfl rfl rfl (pv_not rfl rfl) ?_
    refine xl_nil ?_
    refine xthen_normal ?_
    refine xc_cond_t rfl ?_
    refine xc_seq ?_
    refine xc_region ?_
    refine xl_pure rfl rfl rfl (pv_build_s (cs := [.slice _ _ _, .slice _ _ _]) rfl rfl rfl) ?_
    refine xl_store rfl rfl (hv_storeA (vs := [.slice _ _ _, .slice _ _ _]) rfl rfl rfl (m0_0) rfl (by rfl) rfl) ?_
    rintro v2_1 H2_1 ⟨hU2_1, hZ2_1⟩
    have hX := hX.upd hU2_1.but gb0_0
    have m0_0 := hU2_1.blk
    refine xl_pure rfl rfl rfl (pv_assign (v := .int _ _) rfl rfl) ?_
    refine xl_nil ?_
    refine xthen_normal ?_
    refine xc_ret ?_
    refine xthen_ret ?_
    refine fin_ret (resv2 rfl (rv_c (ty := 45) rfl (ld_blk_a m0_0 rfl rfl)) (rv_t (v := .int _ _) rfl)) ?_
    exact ⟨.inr ⟨hi1_1, rfl⟩, hX⟩


end Go.XG
