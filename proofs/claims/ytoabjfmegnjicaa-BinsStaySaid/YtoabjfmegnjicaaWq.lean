/-
  Walks of the seat's functions over the logic XG: each function, what it computes. Printed by a program out of wip/walks.py.
-/
import Derived.Test.YtoabjfmegnjicaaI
import Derived.Test.YtoabjfmegnjicaaTo
import Derived.Test.YtoabjfmegnjicaaTa
import Derived.Test.YtoabjfmegnjicaaTb
import Derived.Test.YtoabjfmegnjicaaTc
import Derived.Test.YtoabjfmegnjicaaTd
import Derived.Test.YtoabjfmegnjicaaQ
import Derived.Test.YtoabjfmegnjicaaWa
import Derived.Test.YtoabjfmegnjicaaWb
import Derived.Test.YtoabjfmegnjicaaWc
import Derived.Test.YtoabjfmegnjicaaWd
import Derived.Test.YtoabjfmegnjicaaWe
import Derived.Test.YtoabjfmegnjicaaB
import Derived.Test.YtoabjfmegnjicaaWf
import Derived.Test.YtoabjfmegnjicaaD
import Derived.Test.YtoabjfmegnjicaaWg
import Derived.Test.YtoabjfmegnjicaaWh
import Derived.Test.YtoabjfmegnjicaaWi
import Derived.Test.YtoabjfmegnjicaaE
import Derived.Test.YtoabjfmegnjicaaWj
import Derived.Test.YtoabjfmegnjicaaWk
import Derived.Test.YtoabjfmegnjicaaWl
import Derived.Test.YtoabjfmegnjicaaWm
import Derived.Test.YtoabjfmegnjicaaWn
import Derived.Test.YtoabjfmegnjicaaWo
import Derived.Test.YtoabjfmegnjicaaWp
namespace Go.XG
open Go.Proofs
set_option maxRecDepth 4000
set_option maxHeartbeats 4000000
theorem c5 {O : Outer} {H : Heap} {al : Option Addr} {cl : Nat} {L : List (List Int)} (hL : Rows H al 5 L) {aA : Option Addr} {cA : Nat} {A : List BAct} (hA : Acts H aA A) (hAI : ∀ i, i < A.length → (gA A i).n < 9223372036854775808) (x0 x1 x2 x3 : Int) :
    FnC Try.prog 5 #[.slice al L.length cl, .slice aA A.length cA, .agg #[.int .i64 x0, .int .i64 x1, .int .i64 x2, .int .i64 x3]] O H (fun v H' => v = .bool true ∧ Ext H H') := by
  refine fn_enter (A := [.slice al L.length cl, .slice aA A.length cA, .agg #[.int .i64 x0, .int .i64 x1, .int .i64 x2, .int .i64 x3]]) Try.func5 rfl rfl ?_
  have hX := Ext.refl H
  refine xc_seq ?_
  refine xc_region ?_
  refine xl_heavy rfl rfl rfl (hv_box rfl rfl) ?_
  rintro v0_0 H0_0 ⟨b0_0, rfl, hN0_0⟩
  have gb0_0 := hX.fresh hN0_0
  have hX := hX.trans hN0_0.ext
  have m0_0 := hN0_0.blk
  refine xl_pure rfl rfl rfl (pv_assign (v := .bool _) rfl rfl) ?_
  refine xl_nil ?_
  refine xthen_normal ?_
  refine xc_seq ?_
  refine xc_seq ?_
  refine xc_region ?_
  refine xl_pure rfl rfl rfl (pv_move (v := .slice _ _ _) rfl rfl) ?_
  refine xl_pure rfl rfl rfl (pv_len_l rfl rfl) ?_
  refine xl_dec rfl rfl rfl (pv_gtr rfl rfl rfl) (fun h1_2 => ?_) (fun h1_2 => ?_)
  · skip
    refine xl_pure rfl rfl rfl (pv_move (v := .bool _) rfl rfl) ?_
    refine xl_skip rfl rfl rfl ?_
    refine xl_skip rfl rfl rfl ?_
    refine xl_skip rfl rfl rfl ?_
    refine xl_pure rfl rfl rfl (pv_pick_t (v := .bool _) rfl rfl rfl) ?_
    refine xl_nil ?_
    refine xthen_normal ?_
    refine xc_cond_t rfl ?_
    refine xc_seq ?_
    refine xc_region ?_
    refine xl_heavy rfl rfl rfl (hv_call (g := 7) rfl rfl (c7) rfl) ?_
    rintro v2_0 H2_0 ⟨rfl, hE2_0⟩
    have m0_0 := m0_0.ext hE2_0
    have hX := hX.trans hE2_0
    refine xl_pure rfl rfl rfl (pv_assign (v := .bool _) rfl rfl) ?_
    refine xl_nil ?_
    refine xthen_normal ?_
    refine xc_ret ?_
    refine xthen_ret ?_
    refine fin_ret (res1 (v := .bool _) rfl rfl) ?_
    exact ⟨rfl, hX⟩
  · skip
    refine xl_pure rfl rfl rfl (pv_move (v := .bool _) rfl rfl) ?_
    refine xl_pure rfl rfl rfl (pv_move (v := .slice _ _ _) rfl rfl) ?_
    refine xl_heavy rfl rfl rfl (hv_call (g := 18) rfl rfl (c18 (hA.ext hX) 25 (by decide)) rfl) ?_
    rintro v1_5 H1_5 ⟨r1_5, rfl, hf1_5, rfl⟩
    cases r1_5
    · skip
      refine xl_pure rfl rfl rfl (pv_not rfl rfl) ?_
      refine xl_pure rfl rfl rfl (pv_pick_f (v := .bool _) rfl rfl rfl) ?_
      refine xl_nil ?_
      refine xthen_normal ?_
      refine xc_cond_t rfl ?_
      refine xc_seq ?_
      refine xc_region ?_
      refine xl_heavy rfl rfl rfl (hv_call (g := 7) rfl rfl (c7) rfl) ?_
      rintro v2_0 H2_0 ⟨rfl, hE2_0⟩
      have m0_0 := m0_0.ext hE2_0
      have hX := hX.trans hE2_0
      refine xl_pure rfl rfl rfl (pv_assign (v := .bool _) rfl rfl) ?_
      refine xl_nil ?_
      refine xthen_normal ?_
      refine xc_ret ?_
      refine xthen_ret ?_
      refine fin_ret (res1 (v := .bool _) rfl rfl) ?_
      exact ⟨rfl, hX⟩
    · skip
      obtain ⟨hAl, hAs⟩ := hf1_5 rfl
      refine xl_pure rfl rfl rfl (pv_not rfl rfl) ?_
      refine xl_pure rfl rfl rfl (pv_pick_f (v := .bool _) rfl rfl rfl) ?_
      refine xl_nil ?_
      refine xthen_normal ?_
      refine xc_cond_f rfl ?_
      refine xc_skip ?_
      refine xthen_normal ?_
      refine xc_seq ?_
      have hX0 := hX
      refine xc_region ?_
      refine xl_pure rfl rfl rfl (pv_move (v := .slice _ _ _) rfl rfl) ?_
      refine xl_heavy rfl rfl rfl (hv_call (g := 14) rfl rfl (c14 (hL.ext hX) (by omega)) rfl) ?_
      rintro v3_1 H3_1 ⟨e3_1, hl3_1, hv3_1, hE3_1⟩
      have m0_0 := m0_0.ext hE3_1
      have hX := hX.trans hE3_1
      have hX0 := hX0
      rcases hv3_1 with ⟨rfl, ⟨bp, a, c, T, rfl, gbp, mp, hR, hc, hna, ht⟩, hgo⟩ | ⟨hne, rfl⟩
      · skip
        have gbp : Fresh H bp := ⟨Nat.le_trans hX0.size gbp.le⟩
        have hyl := (lds_half hL.1 (Nat.le_refl _) (ldr_ok hl3_1).1).len
        have hyt : (ldB L L.length).length < 800000 := by omega
        refine xl_pure rfl rfl rfl (pv_move (v := .tuple _) rfl rfl) ?_
        refine xl_pure rfl rfl rfl (pv_extract (v := .pointer _) rfl rfl rfl) ?_
        refine xl_pure rfl rfl rfl (pv_extract (v := .int _ _) rfl rfl rfl) ?_
        refine xl_pure rfl rfl rfl (pv_assign (v := .pointer _) rfl rfl) ?_
        refine xl_pure rfl rfl rfl (pv_assign (v := .int _ _) rfl rfl) ?_
        refine xl_nil ?_
        refine xthen_normal ?_
        refine xc_seq ?_
        refine xc_region ?_
        refine xl_pure rfl rfl rfl (pv_move (v := .slice _ _ _) rfl rfl) ?_
        refine xl_heavy rfl rfl rfl (hv_call (g := 19) rfl rfl (c19 (hL.ext hX) (by omega)) rfl) ?_
        rintro v4_1 H4_1 ⟨e4_1, hl4_1, hv4_1, hE4_1⟩
        have m0_0 := m0_0.ext hE4_1
        have mp := mp.ext hE4_1
        have hR := hR.ext hE4_1
        have hX := hX.trans hE4_1
        have he4_1 := hl4_1.uniq hl3_1
        rw [he4_1] at hv4_1
        obtain ⟨aq, cq, rfl, hQ⟩ : ∃ a' c', v4_1 = .tuple #[.slice a' (ldB L L.length).length c', .int .i64 0] ∧ RowsT H4_1 74 5 a' (ldB L L.length) := by rcases hv4_1 with ⟨_, h⟩ | ⟨h, _⟩; exact h; exact absurd rfl h
        refine xl_pure rfl rfl rfl (pv_move (v := .tuple _) rfl rfl) ?_
        refine xl_pure rfl rfl rfl (pv_extract (v := .slice _ _ _) rfl rfl rfl) ?_
        refine xl_pure rfl rfl rfl (pv_extract (v := .int _ _) rfl rfl rfl) ?_
        refine xl_pure rfl rfl rfl (pv_assign (v := .slice _ _ _) rfl rfl) ?_
        refine xl_pure rfl rfl rfl (pv_assign (v := .int _ _) rfl rfl) ?_
        refine xl_nil ?_
        refine xthen_normal ?_
        refine xc_seq ?_
        refine xc_seq ?_
        refine xc_region ?_
        refine xl_pure rfl rfl rfl (pv_move (v := .int _ _) rfl rfl) ?_
        refine xl_pure rfl rfl rfl (pv_move (v := .int _ _) rfl rfl) ?_
        refine xl_ndec rfl rfl rfl (pv_neq rfl rfl rfl) (fun h5_2 => ?_) (fun h5_2 => ?_)
        · skip
          refine xl_pure rfl rfl rfl (pv_move (v := .bool _) rfl rfl) ?_
          refine xl_pure rfl rfl rfl (pv_move (v := .pointer _) rfl rfl) ?_
          refine xl_pure rfl rfl rfl (pv_neq_pn rfl rfl rfl) ?_
          refine xl_pure rfl rfl rfl (pv_move (v := .int _ _) rfl rfl) ?_
          refine xl_dec rfl rfl rfl (pv_eql rfl rfl rfl) (fun h5_7 => ?_) (fun h5_7 => ?_)
          · skip
            refine xl_pure rfl rfl rfl (pv_neq_b rfl rfl rfl) ?_
            refine xl_pure rfl rfl rfl (pv_pick_f (v := .bool _) rfl rfl rfl) ?_
            refine xl_nil ?_
            refine xthen_normal ?_
            refine xc_cond_f rfl ?_
            refine xc_skip ?_
            refine xthen_normal ?_
            refine xc_seq ?_
            refine xc_seq ?_
            refine xc_region ?_
            refine xl_pure rfl rfl rfl (pv_assign (v := .int _ _) rfl rfl) ?_
            refine xl_nil ?_
            refine xthen_normal ?_
            refine xc_block ?_
            refine xc_loop (τ := Nat × Option Addr × Nat × List Int × Option Addr × Nat) (fun t => [(1, .slice aA A.length cA), (5, .pointer (some ⟨b0_0, 0, none⟩)), (7, .pointer (some ⟨bp, 0, none⟩)), (8, .int .i64 0), (9, .slice t.2.2.2.2.1 (ast (ldB L L.length) A t.1).length t.2.2.2.2.2), (11, .int .i64 (t.1 : Nat))]) (fun t H' => (t.1 ≤ A.length) ∧ (Blk H' bp (.slice t.2.1 ((ast (ldB L L.length) A t.1)).length t.2.2.1 :: ints (t.2.2.2.1)) 62) ∧ (RowsT H' 88 5 t.2.1 (ast (ldB L L.length) A t.1)) ∧ ((ast (ldB L L.length) A t.1).length ≤ t.2.2.1) ∧ (t.2.1 = none → t.2.2.1 = 0) ∧ (Tots (ast (ldB L L.length) A t.1) t.2.2.2.1) ∧ (RowsT H' 74 5 t.2.2.2.2.1 (ast (ldB L L.length) A t.1)) ∧ (Blk H' b0_0 [.int .i64 x0, .int .i64 x1, .int .i64 x2, .int .i64 x3] 23) ∧ (Ext H H')) (fun t H' => A.length - t.1) (0, a, c, T, aq, cq) ?_ ?_ ?_
            · exact ⟨rfl, rfl, rfl, rfl, rfl, rfl, trivial⟩
            · skip
              exact ⟨Nat.zero_le _, mp, hR, hc, hna, ht, hQ, m0_0, hX⟩
            · intro σ
              clear hX m0_0 mp hR hQ
              rintro ⟨i, a1, c1, T1, a2, c2⟩ Hl8 ⟨hi, mp, hR, hc1, hna1, hty, hQ, m0_0, hX⟩
              replace hi : i ≤ A.length := hi
              replace mp : Blk Hl8 bp (.slice a1 ((ast (ldB L L.length) A i)).length c1 :: ints (T1)) 62 := mp
              replace hR : RowsT Hl8 88 5 a1 (ast (ldB L L.length) A i) := hR
              replace hc1 : (ast (ldB L L.length) A i).length ≤ c1 := hc1
              replace hna1 : a1 = none → c1 = 0 := hna1
              replace hty : Tots (ast (ldB L L.length) A i) T1 := hty
              replace hQ : RowsT Hl8 74 5 a2 (ast (ldB L L.length) A i) := hQ
              replace m0_0 : Blk Hl8 b0_0 [.int .i64 x0, .int .i64 x1, .int .i64 x2, .int .i64 x3] 23 := m0_0
              replace hX : Ext H Hl8 := hX
              obtain ⟨hgi, hli⟩ := goo_ast (A := A) hgo i
              obtain ⟨hgn, hln⟩ := goo_act (r := gA A i) hgi
              have hlt : (ast (ldB L L.length) A i).length < 900000 := by omega
              have hltn : (actX (ast (ldB L L.length) A i) (gA A i)).length < 1000000 := by omega
              obtain ⟨bl, ofl, hAe⟩ := (hA.ext hX).at'
              show XC _ _ _ (upds σ [(1, .slice aA A.length cA), (5, .pointer (some ⟨b0_0, 0, none⟩)), (7, .pointer (some ⟨bp, 0, none⟩)), (8, .int .i64 0), (9, .slice a2 (ast (ldB L L.length) A i).length c2), (11, .int .i64 (i : Nat))]) _
              refine xc_seq ?_
              refine xc_seq ?_
              refine xc_region ?_
              refine xl_pure rfl rfl rfl (pv_move (v := .int _ _) rfl rfl) ?_
              refine xl_pure rfl rfl rfl (pv_move (v := .slice _ _ _) rfl rfl) ?_
              refine xl_pure rfl rfl rfl (pv_len_l rfl rfl) ?_
              refine xl_dec rfl rfl rfl (pv_lss rfl rfl rfl) (fun h8_3 => ?_) (fun h8_3 => ?_)
              · skip
                refine xl_pure rfl rfl rfl (pv_move (v := .bool _) rfl rfl) ?_
                refine xl_pure rfl rfl rfl (pv_move (v := .int _ _) rfl rfl) ?_
                refine xl_dec rfl rfl rfl (pv_eql rfl rfl rfl) (fun h8_6 => ?_) (fun h8_6 => ?_)
                · skip
                  refine xl_pure rfl rfl rfl (pv_pick_t (v := .bool _) rfl rfl rfl) ?_
                  refine xl_nil ?_
                  refine xthen_normal ?_
                  refine xc_cond_t rfl ?_
                  refine xc_skip ?_
                  refine xthen_normal ?_
                  refine xc_seq ?_
                  refine xc_block ?_
                  refine xc_seq ?_
                  refine xc_region ?_
                  refine xl_pure rfl rfl rfl (pv_move (v := .slice _ _ _) rfl rfl) ?_
                  refine xl_pure rfl rfl rfl (pv_move (v := .slice _ _ _) rfl rfl) ?_
                  refine xl_pure rfl rfl rfl (pv_move (v := .int _ _) rfl rfl) ?_
                  refine xl_pure rfl rfl rfl (pv_indexAddr_l rfl (sl_eq (hAe (by omega)).1) rfl (by omega)) ?_
                  refine xl_light rfl rfl rfl (lv_load (v := .agg _) rfl rfl (by exact ld_act (hAe (by omega)).2 (by omega))) ?_
                  refine xl_heavy rfl rfl rfl (hv_call (g := 20) rfl rfl (c20 hQ hgi hlt (gA A i) (hAI i (by omega)) ((hA.stks (show i < A.length by omega)).ext hX) (by have := hAs i (by omega); omega)) rfl) ?_
                  rintro v10_5 H10_5 ⟨a10_5, c10_5, rfl, hQ10_5, hE10_5⟩
                  have m0_0 := m0_0.ext hE10_5
                  have mp := mp.ext hE10_5
                  have hR := hR.ext hE10_5
                  have hQ := hQ.ext hE10_5
                  have hX := hX.trans hE10_5
                  refine xl_pure rfl rfl rfl (pv_move (v := .tuple _) rfl rfl) ?_
                  refine xl_pure rfl rfl rfl (pv_extract (v := .slice _ _ _) rfl rfl rfl) ?_
                  refine xl_pure rfl rfl rfl (pv_extract (v := .int _ _) rfl rfl rfl) ?_
                  refine xl_pure rfl rfl rfl (pv_assign (v := .slice _ _ _) rfl rfl) ?_
                  refine xl_pure rfl rfl rfl (pv_assign (v := .int _ _) rfl rfl) ?_
                  refine xl_nil ?_
                  refine xthen_normal ?_
                  refine xc_seq ?_
                  refine xc_seq ?_
                  obtain ⟨bl, ofl, hAe⟩ := (hA.ext hX).at'
                  refine xc_region ?_
                  refine xl_pure rfl rfl rfl (pv_move (v := .pointer _) rfl rfl) ?_
                  refine xl_pure rfl rfl rfl (pv_move (v := .slice _ _ _) rfl rfl) ?_
                  refine xl_pure rfl rfl rfl (pv_move (v := .int _ _) rfl rfl) ?_
                  refine xl_pure rfl rfl rfl (pv_indexAddr_l rfl (sl_eq (hAe (by omega)).1) rfl (by omega)) ?_
                  refine xl_light rfl rfl rfl (lv_load (v := .agg _) rfl rfl (by exact ld_act (hAe (by omega)).2 (by omega))) ?_
                  refine xl_heavy rfl rfl rfl (hv_call (g := 9) rfl rfl (c9 mp hR hc1 hna1 hlt hgi hty (gA A i) (hAI i (by omega)) (stksO_new (hA.stks (show i < A.length by omega)) hX gbp.le) (by have := hAs i (by omega); omega)) rfl) ?_
                  rintro v11_5 H11_5 ⟨a11_5, c11_5, T11_5, rfl, hB11_5, hT11_5, hR11_5, hc11_5, hna11_5, ht11_5⟩
                  have m0_0 := m0_0.off hB11_5 (by first | exact nm0_0_mp | exact ⟨m0_0.ne mp rfl⟩ | exact ⟨m0_0.ne mp (by assumption)⟩ | exact ⟨Ne.symm (mp.ne m0_0 (by assumption))⟩)
                  have hR := hR.offT mp hB11_5 (by first | rfl | assumption)
                  have hQ := hQ.offT mp hB11_5 (by first | rfl | assumption)
                  have hQ10_5 := hQ10_5.offT mp hB11_5 (by first | rfl | assumption)
                  have hX := hX.upd hB11_5 gbp
                  have mp := hT11_5
                  refine xl_pure rfl rfl rfl (pv_move (v := .int _ _) rfl rfl) ?_
                  refine xl_ndec rfl rfl rfl (pv_neq rfl rfl rfl) (fun h11_7 => ?_) (fun h11_7 => ?_)
                  · skip
                    refine xl_nil ?_
                    refine xthen_normal ?_
                    refine xc_cond_f rfl ?_
                    refine xc_skip ?_
                    refine xthen_normal ?_
                    refine xc_seq ?_
                    refine xc_region ?_
                    refine xl_pure rfl rfl rfl (pv_move (v := .slice _ _ _) rfl rfl) ?_
                    refine xl_pure rfl rfl rfl (pv_assign (v := .slice _ _ _) rfl rfl) ?_
                    refine xl_nil ?_
                    refine xthen_normal ?_
                    refine xc_seq ?_
                    refine xp_start rfl (by repeat (first | with_reducible exact np_fin | with_reducible exact np_ret | with_reducible refine np_then ?_ | with_reducible refine np_block ?_)) (by kernel_rfl) ?_
                    refine xp_pure (i := 0) rfl (by kernel_rfl) (by kernel_rfl) rfl rfl rfl (pv_move (v := .pointer _) rfl rfl) ?_
                    refine xp_pure (i := 2) rfl (by kernel_rfl) (by kernel_rfl) rfl rfl rfl (pv_move (v := .slice _ _ _) rfl rfl) ?_
                    refine xp_heavy (i := 1) (by kernel_rfl) ?_
                    refine xph_val rfl rfl rfl rfl (hv_call (g := 12) rfl rfl (c12 mp hR11_5 hc11_5 hna11_5 hltn) rfl) pn ?_
                    rintro v14_1 H14_1 ⟨a14_1, c14_1, rfl, hQ14_1, hE14_1⟩
                    have m0_0 := m0_0.ext hE14_1
                    have mp := mp.ext hE14_1
                    have hR := hR.ext hE14_1
                    have hQ := hQ.ext hE14_1
                    have hQ10_5 := hQ10_5.ext hE14_1
                    have hR11_5 := hR11_5.ext hE14_1
                    have hX := hX.trans hE14_1
                    refine ⟨okn, ?_⟩
                    refine xp_heavy (i := 3) (by kernel_rfl) ?_
                    refine xph_val rfl rfl rfl rfl (hv_call (g := 16) rfl rfl (c16 ((actX (ast (ldB L L.length) A i) (gA A i))) ((actX (ast (ldB L L.length) A i) (gA A i))) _ _ _ _ hQ14_1.rows hQ10_5.rows (by omega)) rfl) pn ?_
                    rintro v14_3 H14_3 ⟨r14_3, rfl, hb14_3, rfl⟩
                    obtain rfl : r14_3 = true := hb14_3.2 rfl
                    refine ⟨okn, ?_⟩
                    refine xp_pure (i := 4) rfl (by kernel_rfl) (by kernel_rfl) rfl rfl rfl (pv_not rfl rfl) ?_
                    refine xp_pure (i := 5) rfl (by kernel_rfl) (by kernel_rfl) rfl rfl rfl (pv_move (v := .bool _) rfl rfl) ?_
                    refine xp_pure (i := 6) rfl (by kernel_rfl) (by kernel_rfl) rfl rfl rfl (pv_move (v := .pointer _) rfl rfl) ?_
                    refine xp_light (i := 7) rfl (by kernel_rfl) (by kernel_rfl) rfl rfl rfl (lv_load (v := .agg _) rfl rfl (ld_blk_a m0_0 rfl rfl)) ?_
                    refine xp_pure (i := 9) rfl (by kernel_rfl) (by kernel_rfl) rfl rfl rfl (pv_move (v := .slice _ _ _) rfl rfl) ?_
                    refine xp_light (i := 10) rfl (by kernel_rfl) (by kernel_rfl) rfl rfl rfl (lv_load (v := .agg _) rfl rfl (ld_blk_a m0_0 rfl rfl)) ?_
                    refine xp_heavy (i := 8) (by kernel_rfl) ?_
                    refine xph_val rfl rfl rfl rfl (hv_call (g := 10) rfl rfl (c10 mp hR11_5 hc11_5 hna11_5 hltn hgn.srt ht11_5.len x0 x1 x2 x3) rfl) (pk (by kernel_rfl) (pd (by kernel_rfl) pn)) ?_
                    rintro v14_8 H14_8 ⟨rfl, hE14_8⟩
                    have m0_0 := m0_0.ext hE14_8
                    have mp := mp.ext hE14_8
                    have hR := hR.ext hE14_8
                    have hQ := hQ.ext hE14_8
                    have hQ10_5 := hQ10_5.ext hE14_8
                    have hR11_5 := hR11_5.ext hE14_8
                    have hQ14_1 := hQ14_1.ext hE14_8
                    have hX := hX.trans hE14_8
                    refine ⟨(okc (lv_load (v := .agg _) rfl rfl (ld_blk_a m0_0 rfl rfl)) okn), ?_⟩
                    refine xp_heavy (i := 11) (by kernel_rfl) ?_
                    refine xph_val rfl rfl rfl rfl (hv_call (g := 21) rfl rfl (c21 hQ10_5 hgn.srt hltn [x0, x1, x2, x3] rfl) rfl) (pd (by kernel_rfl) pn) ?_
                    rintro v14_11 H14_11 ⟨rfl, hE14_11⟩
                    have m0_0 := m0_0.ext hE14_11
                    have mp := mp.ext hE14_11
                    have hR := hR.ext hE14_11
                    have hQ := hQ.ext hE14_11
                    have hQ10_5 := hQ10_5.ext hE14_11
                    have hR11_5 := hR11_5.ext hE14_11
                    have hQ14_1 := hQ14_1.ext hE14_11
                    have hX := hX.trans hE14_11
                    refine ⟨okn, ?_⟩
                    refine xp_ndec (i := 12) rfl (by kernel_rfl) (by kernel_rfl) rfl rfl rfl (pv_neq rfl rfl rfl) (fun h14_12 => ?_) (fun h14_12 => ?_)
                    · skip
                      refine xp_pure (i := 13) rfl (by kernel_rfl) (by kernel_rfl) rfl rfl rfl (pv_pick_f (v := .bool _) rfl rfl rfl) ?_
                      refine xp_pure (i := 14) rfl (by kernel_rfl) (by kernel_rfl) rfl rfl rfl (pv_move (v := .bool _) rfl rfl) ?_
                      refine xp_pure (i := 15) rfl (by kernel_rfl) (by kernel_rfl) rfl rfl rfl (pv_move (v := .pointer _) rfl rfl) ?_
                      refine xp_pure (i := 16) rfl (by kernel_rfl) (by kernel_rfl) rfl rfl rfl (pv_fieldAddr rfl rfl) ?_
                      refine xp_light (i := 17) rfl (by kernel_rfl) (by kernel_rfl) rfl rfl rfl (lv_load (v := .int _ _) rfl rfl (ld_blk m0_0 rfl)) ?_
                      refine xp_pure (i := 19) rfl (by kernel_rfl) (by kernel_rfl) rfl rfl rfl (pv_move (v := .slice _ _ _) rfl rfl) ?_
                      refine xp_pure (i := 20) rfl (by kernel_rfl) (by kernel_rfl) rfl rfl rfl (pv_fieldAddr rfl rfl) ?_
                      refine xp_light (i := 21) rfl (by kernel_rfl) (by kernel_rfl) rfl rfl rfl (lv_load (v := .int _ _) rfl rfl (ld_blk m0_0 rfl)) ?_
                      refine xp_heavy (i := 18) (by kernel_rfl) ?_
                      refine xph_val rfl rfl rfl rfl (hv_call (g := 11) rfl rfl (c11g mp hR11_5 hc11_5 hna11_5 hltn hgn ht11_5 x3) rfl) (pk (by kernel_rfl) (pd (by kernel_rfl) pn)) ?_
                      rintro v14_18 H14_18 ⟨rfl, rfl⟩
                      refine ⟨(okc (lv_load (v := .int _ _) rfl rfl (ld_blk m0_0 rfl)) okn), ?_⟩
                      refine xp_heavy (i := 22) (by kernel_rfl) ?_
                      refine xph_val rfl rfl rfl rfl (hv_call (g := 22) rfl rfl (c22 hQ10_5 hgn hltn x3) rfl) (pd (by kernel_rfl) pn) ?_
                      rintro v14_22 H14_22 ⟨rfl, rfl⟩
                      refine ⟨okn, ?_⟩
                      refine xp_ndec (i := 23) rfl (by kernel_rfl) (by kernel_rfl) rfl rfl rfl (pv_neq rfl rfl rfl) (fun h14_23 => ?_) (fun h14_23 => ?_)
                      · skip
                        refine xp_pure (i := 24) rfl (by kernel_rfl) (by kernel_rfl) rfl rfl rfl (pv_pick_f (v := .bool _) rfl rfl rfl) ?_
                        refine xp_pure (i := 25) rfl (by kernel_rfl) (by kernel_rfl) rfl rfl rfl (pv_move (v := .bool _) rfl rfl) ?_
                        refine xp_pure (i := 26) rfl (by kernel_rfl) (by kernel_rfl) rfl rfl rfl (pv_move (v := .pointer _) rfl rfl) ?_
                        refine xp_light (i := 27) rfl (by kernel_rfl) (by kernel_rfl) rfl rfl rfl (lv_load (v := .agg _) rfl rfl (ld_blk_a m0_0 rfl rfl)) ?_
                        refine xp_pure (i := 29) rfl (by kernel_rfl) (by kernel_rfl) rfl rfl rfl (pv_move (v := .slice _ _ _) rfl rfl) ?_
                        refine xp_light (i := 30) rfl (by kernel_rfl) (by kernel_rfl) rfl rfl rfl (lv_load (v := .agg _) rfl rfl (ld_blk_a m0_0 rfl rfl)) ?_
                        refine xp_heavy (i := 28) (by kernel_rfl) ?_
                        refine xph_val rfl rfl rfl rfl (hv_call (g := 13) rfl rfl (c13 mp hR11_5 hc11_5 hna11_5 hltn hgn.srt x0 x1 x2 x3) rfl) (pk (by kernel_rfl) (pd (by kernel_rfl) pn)) ?_
                        rintro v14_28 H14_28 ⟨a14_28, c14_28, rfl, hS14_28, hE14_28⟩
                        have m0_0 := m0_0.ext hE14_28
                        have mp := mp.ext hE14_28
                        have hR := hR.ext hE14_28
                        have hQ := hQ.ext hE14_28
                        have hQ10_5 := hQ10_5.ext hE14_28
                        have hR11_5 := hR11_5.ext hE14_28
                        have hQ14_1 := hQ14_1.ext hE14_28
                        have hX := hX.trans hE14_28
                        refine ⟨(okc (lv_load (v := .agg _) rfl rfl (ld_blk_a m0_0 rfl rfl)) okn), ?_⟩
                        refine xp_heavy (i := 31) (by kernel_rfl) ?_
                        refine xph_val rfl rfl rfl rfl (hv_call (g := 24) rfl rfl (c24 hQ10_5 hgn hltn x0 x1 x2 x3) rfl) (pd (by kernel_rfl) pn) ?_
                        rintro v14_31 H14_31 ⟨a14_31, c14_31, rfl, hS14_31, hE14_31⟩
                        have m0_0 := m0_0.ext hE14_31
                        have mp := mp.ext hE14_31
                        have hR := hR.ext hE14_31
                        have hQ := hQ.ext hE14_31
                        have hQ10_5 := hQ10_5.ext hE14_31
                        have hR11_5 := hR11_5.ext hE14_31
                        have hQ14_1 := hQ14_1.ext hE14_31
                        have hX := hX.trans hE14_31
                        have hS14_28 := hS14_28.ext hE14_31
                        refine ⟨okn, ?_⟩
                        refine xp_heavy (i := 32) (by kernel_rfl) ?_
                        refine xph_val rfl rfl rfl rfl (hv_call (g := 23) rfl rfl (gSame _ _ _ _ _ _ hS14_28 hS14_31 (by have := ofS_len (l := (actX (ast (ldB L L.length) A i) (gA A i))) (k0 := x0) (k1 := x1) (k2 := x2); omega)) rfl) pn ?_
                        rintro v14_32 H14_32 ⟨r14_32, rfl, hb14_32, rfl⟩
                        obtain rfl : r14_32 = true := hb14_32.2 rfl
                        refine ⟨okn, ?_⟩
                        refine xp_pure (i := 33) rfl (by kernel_rfl) (by kernel_rfl) rfl rfl rfl (pv_not rfl rfl) ?_
                        refine xp_pure (i := 34) rfl (by kernel_rfl) (by kernel_rfl) rfl rfl rfl (pv_pick_f (v := .bool _) rfl rfl rfl) ?_
                        refine xp_done (by kernel_rfl) ?_
                        refine xthen_normal ?_
                        refine xc_cond_f rfl ?_
                        refine xc_skip ?_
                        refine xblock_normal ?_
                        refine xthen_normal ?_
                        refine xc_region ?_
                        refine xl_pure rfl rfl rfl (pv_move (v := .int _ _) rfl rfl) ?_
                        refine xl_pure rfl rfl rfl (pv_add rfl rfl rfl (fit_i64 (by omega))) ?_
                        refine xl_pure rfl rfl rfl (pv_assign (v := .int _ _) rfl rfl) ?_
                        refine xl_nil ?_
                        refine xthen_normal ?_
                        exact ⟨(i + 1, _, _, _, _, _), ⟨rfl, rfl, rfl, rfl, rfl, rfl, trivial⟩, ⟨by (try simp only); omega, mp, hR11_5, hc11_5, hna11_5, ht11_5, hQ10_5, m0_0, hX⟩, by (try simp only); omega⟩
                      · exact absurd rfl h14_23
                    · exact absurd rfl h14_12
                  · exact absurd rfl h11_7
                · exact absurd rfl h8_6
              · skip
                refine xl_pure rfl rfl rfl (pv_move (v := .bool _) rfl rfl) ?_
                refine xl_skip rfl rfl rfl ?_
                refine xl_skip rfl rfl rfl ?_
                refine xl_pure rfl rfl rfl (pv_pick_f (v := .bool _) rfl rfl rfl) ?_
                refine xl_nil ?_
                refine xthen_normal ?_
                refine xc_cond_f rfl ?_
                refine xc_exit ?_
                refine xthen_exit ?_
                refine xthen_exit ?_
                refine xblock_same ?_
                refine xthen_normal ?_
                refine xc_seq ?_
                refine xc_region ?_
                refine xl_pure rfl rfl rfl (pv_move (v := .int _ _) rfl rfl) ?_
                refine xl_ndec rfl rfl rfl (pv_neq rfl rfl rfl) (fun h16_1 => ?_) (fun h16_1 => ?_)
                · skip
                  refine xl_pure rfl rfl rfl (pv_move (v := .bool _) rfl rfl) ?_
                  refine xl_pure rfl rfl rfl (pv_move (v := .pointer _) rfl rfl) ?_
                  refine xl_heavy rfl rfl rfl (hv_call (g := 12) rfl rfl (c12 mp hR hc1 hna1 (by omega)) rfl) ?_
                  rintro v16_4 H16_4 ⟨a16_4, c16_4, rfl, hQ16_4, hE16_4⟩
                  have m0_0 := m0_0.ext hE16_4
                  have mp := mp.ext hE16_4
                  have hR := hR.ext hE16_4
                  have hQ := hQ.ext hE16_4
                  have hX := hX.trans hE16_4
                  refine xl_pure rfl rfl rfl (pv_move (v := .slice _ _ _) rfl rfl) ?_
                  refine xl_heavy rfl rfl rfl (hv_call (g := 16) rfl rfl (c16 ((ast (ldB L L.length) A i)) ((ast (ldB L L.length) A i)) _ _ _ _ hQ16_4.rows hQ.rows (by omega)) rfl) ?_
                  rintro v16_6 H16_6 ⟨r16_6, rfl, hb16_6, rfl⟩
                  obtain rfl : r16_6 = true := hb16_6.2 rfl
                  refine xl_pure rfl rfl rfl (pv_pick_f (v := .bool _) rfl rfl rfl) ?_
                  refine xl_pure rfl rfl rfl (pv_move (v := .bool _) rfl rfl) ?_
                  refine xl_heavy rfl rfl rfl (hv_call (g := 7) rfl rfl (c7) rfl) ?_
                  rintro v16_9 H16_9 ⟨rfl, hE16_9⟩
                  have m0_0 := m0_0.ext hE16_9
                  have mp := mp.ext hE16_9
                  have hR := hR.ext hE16_9
                  have hQ := hQ.ext hE16_9
                  have hQ16_4 := hQ16_4.ext hE16_9
                  have hX := hX.trans hE16_9
                  refine xl_pure rfl rfl rfl (pv_pick_t (v := .bool _) rfl rfl rfl) ?_
                  refine xl_pure rfl rfl rfl (pv_assign (v := .bool _) rfl rfl) ?_
                  refine xl_nil ?_
                  refine xthen_normal ?_
                  refine xc_ret ?_
                  refine fin_ret (res1 (v := .bool _) rfl rfl) ?_
                  exact ⟨rfl, hX⟩
                · exact absurd rfl h16_1
          · exact absurd rfl h5_7
        · exact absurd rfl h5_2
      · skip
        refine xl_pure rfl rfl rfl (pv_move (v := .tuple _) rfl rfl) ?_
        refine xl_pure rfl rfl rfl (pv_extract (v := .pointer _) rfl rfl rfl) ?_
        refine xl_pure rfl rfl rfl (pv_extract (v := .int _ _) rfl rfl rfl) ?_
        refine xl_pure rfl rfl rfl (pv_assign (v := .pointer _) rfl rfl) ?_
        refine xl_pure rfl rfl rfl (pv_assign (v := .int _ _) rfl rfl) ?_
        refine xl_nil ?_
        refine xthen_normal ?_
        refine xc_seq ?_
        refine xc_region ?_
        refine xl_pure rfl rfl rfl (pv_move (v := .slice _ _ _) rfl rfl) ?_
        refine xl_heavy rfl rfl rfl (hv_call (g := 19) rfl rfl (c19 (hL.ext hX) (by omega)) rfl) ?_
        rintro v4_1 H4_1 ⟨e4_1, hl4_1, hv4_1, hE4_1⟩
        have m0_0 := m0_0.ext hE4_1
        have hX := hX.trans hE4_1
        have he4_1 := hl4_1.uniq hl3_1
        rw [he4_1] at hv4_1
        obtain rfl : v4_1 = .tuple #[.slice none 0 0, .int .i64 e3_1] := by rcases hv4_1 with ⟨h, _⟩ | ⟨_, h⟩; exact absurd h hne; exact h
        refine xl_pure rfl rfl rfl (pv_move (v := .tuple _) rfl rfl) ?_
        refine xl_pure rfl rfl rfl (pv_extract (v := .slice _ _ _) rfl rfl rfl) ?_
        refine xl_pure rfl rfl rfl (pv_extract (v := .int _ _) rfl rfl rfl) ?_
        refine xl_pure rfl rfl rfl (pv_assign (v := .slice _ _ _) rfl rfl) ?_
        refine xl_pure rfl rfl rfl (pv_assign (v := .int _ _) rfl rfl) ?_
        refine xl_nil ?_
        refine xthen_normal ?_
        refine xc_seq ?_
        refine xc_seq ?_
        refine xc_region ?_
        refine xl_pure rfl rfl rfl (pv_move (v := .int _ _) rfl rfl) ?_
        refine xl_pure rfl rfl rfl (pv_move (v := .int _ _) rfl rfl) ?_
        refine xl_ndec rfl rfl rfl (pv_neq rfl rfl rfl) (fun h5_2 => ?_) (fun h5_2 => ?_)
        · skip
          refine xl_pure rfl rfl rfl (pv_move (v := .bool _) rfl rfl) ?_
          refine xl_pure rfl rfl rfl (pv_move (v := .pointer _) rfl rfl) ?_
          refine xl_pure rfl rfl rfl (pv_neq_nn rfl rfl rfl) ?_
          refine xl_pure rfl rfl rfl (pv_move (v := .int _ _) rfl rfl) ?_
          refine xl_dec rfl rfl rfl (pv_eql rfl rfl rfl) (fun h5_7 => ?_) (fun h5_7 => ?_)
          · exact absurd h5_7 hne
          · skip
            refine xl_pure rfl rfl rfl (pv_neq_b rfl rfl rfl) ?_
            refine xl_pure rfl rfl rfl (pv_pick_f (v := .bool _) rfl rfl rfl) ?_
            refine xl_nil ?_
            refine xthen_normal ?_
            refine xc_cond_f rfl ?_
            refine xc_skip ?_
            refine xthen_normal ?_
            refine xc_seq ?_
            refine xc_seq ?_
            refine xc_region ?_
            refine xl_pure rfl rfl rfl (pv_assign (v := .int _ _) rfl rfl) ?_
            refine xl_nil ?_
            refine xthen_normal ?_
            refine xc_block ?_
            refine xc_loop (τ := Unit) (fun t => [(1, .slice aA A.length cA), (5, .pointer (some ⟨b0_0, 0, none⟩)), (7, .pointer none), (8, .int .i64 e3_1), (9, .slice none 0 0), (11, .int .i64 0)]) (fun t H' => (True) ∧ (Ext H H')) (fun t H' => 0) () ?_ ?_ ?_
            · exact ⟨rfl, rfl, rfl, rfl, rfl, rfl, trivial⟩
            · skip
              exact ⟨trivial, hX⟩
            · intro σ
              clear hX m0_0
              rintro t Hl8 ⟨hT, hX⟩
              replace hT : True := hT
              replace hX : Ext H Hl8 := hX
              show XC _ _ _ (upds σ [(1, .slice aA A.length cA), (5, .pointer (some ⟨b0_0, 0, none⟩)), (7, .pointer none), (8, .int .i64 e3_1), (9, .slice none 0 0), (11, .int .i64 0)]) _
              refine xc_seq ?_
              refine xc_seq ?_
              refine xc_region ?_
              refine xl_pure rfl rfl rfl (pv_move (v := .int _ _) rfl rfl) ?_
              refine xl_pure rfl rfl rfl (pv_move (v := .slice _ _ _) rfl rfl) ?_
              refine xl_pure rfl rfl rfl (pv_len_l rfl rfl) ?_
              refine xl_dec rfl rfl rfl (pv_lss rfl rfl rfl) (fun h8_3 => ?_) (fun h8_3 => ?_)
              · skip
                refine xl_pure rfl rfl rfl (pv_move (v := .bool _) rfl rfl) ?_
                refine xl_pure rfl rfl rfl (pv_move (v := .int _ _) rfl rfl) ?_
                refine xl_dec rfl rfl rfl (pv_eql rfl rfl rfl) (fun h8_6 => ?_) (fun h8_6 => ?_)
                · exact absurd h8_6 hne
                · skip
                  refine xl_pure rfl rfl rfl (pv_pick_t (v := .bool _) rfl rfl rfl) ?_
                  refine xl_nil ?_
                  refine xthen_normal ?_
                  refine xc_cond_f rfl ?_
                  refine xc_exit ?_
                  refine xthen_exit ?_
                  refine xthen_exit ?_
                  refine xblock_same ?_
                  refine xthen_normal ?_
                  refine xc_seq ?_
                  refine xc_region ?_
                  refine xl_pure rfl rfl rfl (pv_move (v := .int _ _) rfl rfl) ?_
                  refine xl_ndec rfl rfl rfl (pv_neq rfl rfl rfl) (fun h16_1 => ?_) (fun h16_1 => ?_)
                  · exact absurd h16_1 hne
                  · skip
                    refine xl_pure rfl rfl rfl (pv_move (v := .bool _) rfl rfl) ?_
                    refine xl_skip rfl rfl rfl ?_
                    refine xl_skip rfl rfl rfl ?_
                    refine xl_skip rfl rfl rfl ?_
                    refine xl_skip rfl rfl rfl ?_
                    refine xl_pure rfl rfl rfl (pv_pick_t (v := .bool _) rfl rfl rfl) ?_
                    refine xl_pure rfl rfl rfl (pv_move (v := .bool _) rfl rfl) ?_
                    refine xl_heavy rfl rfl rfl (hv_call (g := 7) rfl rfl (c7) rfl) ?_
                    rintro v16_9 H16_9 ⟨rfl, hE16_9⟩
                    have hX := hX.trans hE16_9
                    refine xl_pure rfl rfl rfl (pv_pick_t (v := .bool _) rfl rfl rfl) ?_
                    refine xl_pure rfl rfl rfl (pv_assign (v := .bool _) rfl rfl) ?_
                    refine xl_nil ?_
                    refine xthen_normal ?_
                    refine xc_ret ?_
                    refine fin_ret (res1 (v := .bool _) rfl rfl) ?_
                    exact ⟨rfl, hX⟩
              · skip
                refine xl_pure rfl rfl rfl (pv_move (v := .bool _) rfl rfl) ?_
                refine xl_skip rfl rfl rfl ?_
                refine xl_skip rfl rfl rfl ?_
                refine xl_pure rfl rfl rfl (pv_pick_f (v := .bool _) rfl rfl rfl) ?_
                refine xl_nil ?_
                refine xthen_normal ?_
                refine xc_cond_f rfl ?_
                refine xc_exit ?_
                refine xthen_exit ?_
                refine xthen_exit ?_
                refine xblock_same ?_
                refine xthen_normal ?_
                refine xc_seq ?_
                refine xc_region ?_
                refine xl_pure rfl rfl rfl (pv_move (v := .int _ _) rfl rfl) ?_
                refine xl_ndec rfl rfl rfl (pv_neq rfl rfl rfl) (fun h16_1 => ?_) (fun h16_1 => ?_)
                · exact absurd h16_1 hne
                · skip
                  refine xl_pure rfl rfl rfl (pv_move (v := .bool _) rfl rfl) ?_
                  refine xl_skip rfl rfl rfl ?_
                  refine xl_skip rfl rfl rfl ?_
                  refine xl_skip rfl rfl rfl ?_
                  refine xl_skip rfl rfl rfl ?_
                  refine xl_pure rfl rfl rfl (pv_pick_t (v := .bool _) rfl rfl rfl) ?_
                  refine xl_pure rfl rfl rfl (pv_move (v := .bool _) rfl rfl) ?_
                  refine xl_heavy rfl rfl rfl (hv_call (g := 7) rfl rfl (c7) rfl) ?_
                  rintro v16_9 H16_9 ⟨rfl, hE16_9⟩
                  have hX := hX.trans hE16_9
                  refine xl_pure rfl rfl rfl (pv_pick_t (v := .bool _) rfl rfl rfl) ?_
                  refine xl_pure rfl rfl rfl (pv_assign (v := .bool _) rfl rfl) ?_
                  refine xl_nil ?_
                  refine xthen_normal ?_
                  refine xc_ret ?_
                  refine fin_ret (res1 (v := .bool _) rfl rfl) ?_
                  exact ⟨rfl, hX⟩
        · exact absurd rfl h5_2
end Go.XG
