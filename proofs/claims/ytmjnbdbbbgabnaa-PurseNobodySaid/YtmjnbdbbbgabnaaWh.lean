/-
  Walks of the seat's functions over the logic XG: each function, what it computes. Printed by a program out of wip/walks.py.
-/
import Derived.Test.YtmjnbdbbbgabnaaI
import Derived.Test.YtmjnbdbbbgabnaaTm
import Derived.Test.YtmjnbdbbbgabnaaTa
import Derived.Test.YtmjnbdbbbgabnaaTb
import Derived.Test.YtmjnbdbbbgabnaaTd
import Derived.Test.YtmjnbdbbbgabnaaTc
import Derived.Test.YtmjnbdbbbgabnaaP
import Derived.Test.YtmjnbdbbbgabnaaWa
import Derived.Test.YtmjnbdbbbgabnaaWb
import Derived.Test.YtmjnbdbbbgabnaaWc
import Derived.Test.YtmjnbdbbbgabnaaQ
import Derived.Test.YtmjnbdbbbgabnaaTo
import Derived.Test.YtmjnbdbbbgabnaaWd
import Derived.Test.YtmjnbdbbbgabnaaWe
import Derived.Test.YtmjnbdbbbgabnaaWf
import Derived.Test.YtmjnbdbbbgabnaaWg
namespace Go.XG
open Go.Proofs
set_option maxRecDepth 4000
set_option maxHeartbeats 4000000
theorem c3 {O : Outer} {H : Heap} {al : Option Addr} {cl : Nat} {L : List (List Int)} (hL : Rows H al 2 L) {aA : Option Addr} {cA : Nat} {A : List (List Int)} (hA : Rows H aA 4 A) (hAI : ∀ r ∈ A, ∀ z ∈ r, z < 9223372036854775808) :
    FnC Try.prog 3 #[.slice al L.length cl, .slice aA A.length cA] O H (fun v H' => v = .bool true ∧ Ext H H') := by
  have hn3 : ∀ {i : Nat}, i < A.length → (gr A i).getD 3 0 < 9223372036854775808 := fun {i} hi => hAI _ (gr_mem hi) _ (getD_mem (by rw [hA.1.get hi]; decide))
  refine fn_enter (A := [.slice al L.length cl, .slice aA A.length cA]) Try.func3 rfl rfl ?_
  have hX := Ext.refl H
  refine xc_seq ?_
  refine xc_region ?_
  refine xl_pure rfl rfl rfl (pv_assign (v := .bool _) rfl rfl) ?_
  refine xl_nil ?_
  refine xthen_normal ?_
  refine xc_seq ?_
  refine xc_seq ?_
  refine xc_region ?_
  refine xl_pure rfl rfl rfl (pv_move (v := .slice _ _ _) rfl rfl) ?_
  refine xl_pure rfl rfl rfl (pv_len_l rfl rfl) ?_
  refine xl_dec rfl rfl rfl (pv_gtr rfl rfl rfl) (fun h1_2 => ?_) (fun h1_2 => ?_)
  · skip
    refine xl_pure rfl rfl rfl (pv_move (v := .bool _) rfl rfl) ?_
    refine xl_skip rfl rfl rfl ?_
    refine xl_skip rfl rfl rfl ?_
    refine xl_skip rfl rfl rfl ?_
    refine xl_pure rfl rfl rfl (pv_pick_t (v := .bool _) rfl rfl rfl) ?_
    refine xl_nil ?_
    refine xthen_normal ?_
    refine xc_cond_t rfl ?_
    refine xc_seq ?_
    refine xc_region ?_
    refine xl_heavy rfl rfl rfl (hv_call (g := 7) rfl rfl (c7) rfl) ?_
    rintro v2_0 H2_0 ⟨rfl, hE2_0⟩
    have hX := hX.trans hE2_0
    refine xl_pure rfl rfl rfl (pv_assign (v := .bool _) rfl rfl) ?_
    refine xl_nil ?_
    refine xthen_normal ?_
    refine xc_ret ?_
    refine xthen_ret ?_
    refine fin_ret (res1 (v := .bool _) rfl rfl) ?_
    exact ⟨rfl, hX⟩
  · skip
    refine xl_pure rfl rfl rfl (pv_move (v := .bool _) rfl rfl) ?_
    refine xl_pure rfl rfl rfl (pv_move (v := .slice _ _ _) rfl rfl) ?_
    refine xl_pure rfl rfl rfl (pv_len_l rfl rfl) ?_
    refine xl_dec rfl rfl rfl (pv_gtr rfl rfl rfl) (fun h1_6 => ?_) (fun h1_6 => ?_)
    · skip
      refine xl_pure rfl rfl rfl (pv_pick_f (v := .bool _) rfl rfl rfl) ?_
      refine xl_nil ?_
      refine xthen_normal ?_
      refine xc_cond_t rfl ?_
      refine xc_seq ?_
      refine xc_region ?_
      refine xl_heavy rfl rfl rfl (hv_call (g := 7) rfl rfl (c7) rfl) ?_
      rintro v2_0 H2_0 ⟨rfl, hE2_0⟩
      have hX := hX.trans hE2_0
      refine xl_pure rfl rfl rfl (pv_assign (v := .bool _) rfl rfl) ?_
      refine xl_nil ?_
      refine xthen_normal ?_
      refine xc_ret ?_
      refine xthen_ret ?_
      refine fin_ret (res1 (v := .bool _) rfl rfl) ?_
      exact ⟨rfl, hX⟩
    · skip
      refine xl_pure rfl rfl rfl (pv_pick_f (v := .bool _) rfl rfl rfl) ?_
      refine xl_nil ?_
      refine xthen_normal ?_
      refine xc_cond_f rfl ?_
      refine xc_skip ?_
      refine xthen_normal ?_
      refine xc_seq ?_
      refine xc_region ?_
      refine xl_pure rfl rfl rfl (pv_move (v := .slice _ _ _) rfl rfl) ?_
      refine xl_heavy rfl rfl rfl (hv_call (g := 8) rfl rfl (c8 hL (by omega)) rfl) ?_
      rintro v3_1 H3_1 ⟨e3_1, hl3_1, hv3_1, hE3_1⟩
      have hX := hX.trans hE3_1
      rcases hv3_1 with ⟨rfl, ⟨bp, a, c, rfl, gbp, mp, hR, hc, hna⟩, hgo⟩ | ⟨hne, rfl⟩
      · skip
        have hyl := (lds_ok (L := L) (Nat.le_refl _) (by rcases hl3_1 with ⟨h, _⟩ | h; exact absurd h (by decide); exact h.1)).2.2.2.2
        have hyt : (tb (lds L L.length)).length < 1000000 := by rw [tb_len]; omega
        refine xl_pure rfl rfl rfl (pv_move (v := .tuple _) rfl rfl) ?_
        refine xl_pure rfl rfl rfl (pv_extract (v := .pointer _) rfl rfl rfl) ?_
        refine xl_pure rfl rfl rfl (pv_extract (v := .int _ _) rfl rfl rfl) ?_
        refine xl_pure rfl rfl rfl (pv_assign (v := .pointer _) rfl rfl) ?_
        refine xl_pure rfl rfl rfl (pv_assign (v := .int _ _) rfl rfl) ?_
        refine xl_nil ?_
        refine xthen_normal ?_
        refine xc_seq ?_
        refine xc_region ?_
        refine xl_pure rfl rfl rfl (pv_move (v := .slice _ _ _) rfl rfl) ?_
        refine xl_heavy rfl rfl rfl (hv_call (g := 9) rfl rfl (c9 (hL.ext hX) (by omega)) rfl) ?_
        rintro v4_1 H4_1 ⟨e4_1, hl4_1, hv4_1, hE4_1⟩
        have mp := mp.ext hE4_1
        have hR := hR.ext hE4_1
        have hX := hX.trans hE4_1
        have he4_1 := hl4_1.uniq hl3_1
        rw [he4_1] at hv4_1
        obtain ⟨a9, c9, rfl, hQ, hc9⟩ : ∃ a' c', v4_1 = .tuple #[.slice a' (lds L L.length).length c', .int .i64 0] ∧ RowsT H4_1 60 2 a' (lds L L.length) ∧ (lds L L.length).length ≤ c' := by rcases hv4_1 with ⟨_, h⟩ | ⟨h, _⟩; exact h; exact absurd rfl h
        refine xl_pure rfl rfl rfl (pv_move (v := .tuple _) rfl rfl) ?_
        refine xl_pure rfl rfl rfl (pv_extract (v := .slice _ _ _) rfl rfl rfl) ?_
        refine xl_pure rfl rfl rfl (pv_extract (v := .int _ _) rfl rfl rfl) ?_
        refine xl_pure rfl rfl rfl (pv_assign (v := .slice _ _ _) rfl rfl) ?_
        refine xl_pure rfl rfl rfl (pv_assign (v := .int _ _) rfl rfl) ?_
        refine xl_nil ?_
        refine xthen_normal ?_
        refine xc_seq ?_
        refine xc_seq ?_
        refine xc_region ?_
        refine xl_pure rfl rfl rfl (pv_move (v := .int _ _) rfl rfl) ?_
        refine xl_pure rfl rfl rfl (pv_move (v := .int _ _) rfl rfl) ?_
        refine xl_ndec rfl rfl rfl (pv_neq rfl rfl rfl) (fun h5_2 => ?_) (fun h5_2 => ?_)
        · skip
          refine xl_pure rfl rfl rfl (pv_move (v := .bool _) rfl rfl) ?_
          refine xl_pure rfl rfl rfl (pv_move (v := .pointer _) rfl rfl) ?_
          refine xl_pure rfl rfl rfl (pv_neq_pn rfl rfl rfl) ?_
          refine xl_pure rfl rfl rfl (pv_move (v := .int _ _) rfl rfl) ?_
          refine xl_dec rfl rfl rfl (pv_eql rfl rfl rfl) (fun h5_7 => ?_) (fun h5_7 => ?_)
          · skip
            refine xl_pure rfl rfl rfl (pv_neq_b rfl rfl rfl) ?_
            refine xl_pure rfl rfl rfl (pv_pick_f (v := .bool _) rfl rfl rfl) ?_
            refine xl_nil ?_
            refine xthen_normal ?_
            refine xc_cond_f rfl ?_
            refine xc_skip ?_
            refine xthen_normal ?_
            refine xc_seq ?_
            refine xc_seq ?_
            refine xc_region ?_
            refine xl_pure rfl rfl rfl (pv_assign (v := .int _ _) rfl rfl) ?_
            refine xl_nil ?_
            refine xthen_normal ?_
            refine xc_block ?_
            refine xc_loop (τ := Nat × Option Addr × Nat × Option Addr × Nat) (fun t => [(1, .slice aA A.length cA), (5, .pointer (some ⟨bp, 0, none⟩)), (6, .int .i64 0), (7, .slice t.2.2.2.1 (ast (lds L L.length) A t.1).length t.2.2.2.2), (9, .int .i64 (t.1 : Nat))]) (fun t H' => (t.1 ≤ A.length) ∧ (Blk H' bp [.slice t.2.1 (tb (ast (lds L L.length) A t.1)).length t.2.2.1, .int .i64 (tot (ast (lds L L.length) A t.1))] 56) ∧ (RowsT H' 85 5 t.2.1 (tb (ast (lds L L.length) A t.1))) ∧ ((tb (ast (lds L L.length) A t.1)).length ≤ t.2.2.1) ∧ (t.2.1 = none → t.2.2.1 = 0) ∧ (RowsT H' 60 2 t.2.2.2.1 (ast (lds L L.length) A t.1)) ∧ ((ast (lds L L.length) A t.1).length ≤ t.2.2.2.2) ∧ (Ext H H')) (fun t H' => A.length - t.1) (0, a, c, a9, c9) ?_ ?_ ?_
            · exact ⟨rfl, rfl, rfl, rfl, rfl, trivial⟩
            · skip
              exact ⟨Nat.zero_le _, mp, hR, hc, hna, hQ, hc9, hX⟩
            · intro σ
              clear hX mp hR hQ
              rintro ⟨i, a1, c1, a2, c2⟩ Hl8 ⟨hi, mp, hR, hc1, hna1, hQ, hc2, hX⟩
              replace hi : i ≤ A.length := hi
              replace mp : Blk Hl8 bp [.slice a1 (tb (ast (lds L L.length) A i)).length c1, .int .i64 (tot (ast (lds L L.length) A i))] 56 := mp
              replace hR : RowsT Hl8 85 5 a1 (tb (ast (lds L L.length) A i)) := hR
              replace hc1 : (tb (ast (lds L L.length) A i)).length ≤ c1 := hc1
              replace hna1 : a1 = none → c1 = 0 := hna1
              replace hQ : RowsT Hl8 60 2 a2 (ast (lds L L.length) A i) := hQ
              replace hc2 : (ast (lds L L.length) A i).length ≤ c2 := hc2
              replace hX : Ext H Hl8 := hX
              obtain ⟨hgi, hli⟩ := goo_ast (A := A) hgo i hi
              obtain ⟨hgn, hln⟩ := goo_act (r := gr A i) hgi
              have hlt : (tb (ast (lds L L.length) A i)).length < 1000000 := by rw [tb_len]; omega
              have hltn : (tb (actX (ast (lds L L.length) A i) (gr A i))).length < 1000000 := by rw [tb_len]; omega
              obtain ⟨bl, ofl, hAe⟩ := (hA.ext hX).at'
              show XC _ _ _ (upds σ [(1, .slice aA A.length cA), (5, .pointer (some ⟨bp, 0, none⟩)), (6, .int .i64 0), (7, .slice a2 (ast (lds L L.length) A i).length c2), (9, .int .i64 (i : Nat))]) _
              refine xc_seq ?_
              refine xc_seq ?_
              refine xc_region ?_
              refine xl_pure rfl rfl rfl (pv_move (v := .int _ _) rfl rfl) ?_
              refine xl_pure rfl rfl rfl (pv_move (v := .slice _ _ _) rfl rfl) ?_
              refine xl_pure rfl rfl rfl (pv_len_l rfl rfl) ?_
              refine xl_dec rfl rfl rfl (pv_lss rfl rfl rfl) (fun h8_3 => ?_) (fun h8_3 => ?_)
              · skip
                refine xl_pure rfl rfl rfl (pv_move (v := .bool _) rfl rfl) ?_
                refine xl_pure rfl rfl rfl (pv_move (v := .int _ _) rfl rfl) ?_
                refine xl_dec rfl rfl rfl (pv_eql rfl rfl rfl) (fun h8_6 => ?_) (fun h8_6 => ?_)
                · skip
                  refine xl_pure rfl rfl rfl (pv_pick_t (v := .bool _) rfl rfl rfl) ?_
                  refine xl_nil ?_
                  refine xthen_normal ?_
                  refine xc_cond_t rfl ?_
                  refine xc_skip ?_
                  refine xthen_normal ?_
                  refine xc_seq ?_
                  refine xc_block ?_
                  refine xc_seq ?_
                  refine xc_region ?_
                  refine xl_pure rfl rfl rfl (pv_move (v := .slice _ _ _) rfl rfl) ?_
                  refine xl_pure rfl rfl rfl (pv_move (v := .slice _ _ _) rfl rfl) ?_
                  refine xl_pure rfl rfl rfl (pv_move (v := .int _ _) rfl rfl) ?_
                  refine xl_pure rfl rfl rfl (pv_indexAddr_l rfl (sl_eq (hAe (by omega)).1) rfl (by omega)) ?_
                  refine xl_light rfl rfl rfl (lv_load (v := .agg _) rfl rfl (by exact ld_row' (hAe (by omega)).2 hA.1 (by omega))) ?_
                  refine xl_heavy rfl rfl rfl (hv_call (g := 10) rfl rfl (c10 hQ hgi (by omega) hc2 (gr A i) (hA.1.get (by omega))) rfl) ?_
                  rintro v10_5 H10_5 ⟨a10_5, c10_5, rfl, hQ10_5, hc10_5, hE10_5⟩
                  have mp := mp.ext hE10_5
                  have hR := hR.ext hE10_5
                  have hQ := hQ.ext hE10_5
                  have hX := hX.trans hE10_5
                  refine xl_pure rfl rfl rfl (pv_move (v := .tuple _) rfl rfl) ?_
                  refine xl_pure rfl rfl rfl (pv_extract (v := .slice _ _ _) rfl rfl rfl) ?_
                  refine xl_pure rfl rfl rfl (pv_extract (v := .int _ _) rfl rfl rfl) ?_
                  refine xl_pure rfl rfl rfl (pv_extract (v := .int _ _) rfl rfl rfl) ?_
                  refine xl_pure rfl rfl rfl (pv_assign (v := .slice _ _ _) rfl rfl) ?_
                  refine xl_pure rfl rfl rfl (pv_assign (v := .int _ _) rfl rfl) ?_
                  refine xl_pure rfl rfl rfl (pv_assign (v := .int _ _) rfl rfl) ?_
                  refine xl_nil ?_
                  refine xthen_normal ?_
                  refine xc_seq ?_
                  obtain ⟨bl, ofl, hAe⟩ := (hA.ext hX).at'
                  refine xc_region ?_
                  refine xl_pure rfl rfl rfl (pv_move (v := .pointer _) rfl rfl) ?_
                  refine xl_pure rfl rfl rfl (pv_move (v := .slice _ _ _) rfl rfl) ?_
                  refine xl_pure rfl rfl rfl (pv_move (v := .int _ _) rfl rfl) ?_
                  refine xl_pure rfl rfl rfl (pv_indexAddr_l rfl (sl_eq (hAe (by omega)).1) rfl (by omega)) ?_
                  refine xl_light rfl rfl rfl (lv_load (v := .agg _) rfl rfl (by exact ld_row' (hAe (by omega)).2 hA.1 (by omega))) ?_
                  refine xl_heavy rfl rfl rfl (hv_call (g := 11) rfl rfl (c11 mp hR hc1 hna1 hlt hgi (gr A i) (hA.1.get (by omega)) (hn3 (by omega))) rfl) ?_
                  rintro v11_5 H11_5 ⟨a11_5, c11_5, rfl, hB11_5, hT11_5, hR11_5, hc11_5, hna11_5⟩
                  have hR := hR.offT mp hB11_5 (by first | rfl | assumption)
                  have hQ := hQ.offT mp hB11_5 (by first | rfl | assumption)
                  have hQ10_5 := hQ10_5.offT mp hB11_5 (by first | rfl | assumption)
                  have hX := hX.upd hB11_5 gbp
                  have mp := hT11_5
                  refine xl_pure rfl rfl rfl (pv_move (v := .tuple _) rfl rfl) ?_
                  refine xl_pure rfl rfl rfl (pv_extract (v := .int _ _) rfl rfl rfl) ?_
                  refine xl_pure rfl rfl rfl (pv_extract (v := .int _ _) rfl rfl rfl) ?_
                  refine xl_pure rfl rfl rfl (pv_assign (v := .int _ _) rfl rfl) ?_
                  refine xl_pure rfl rfl rfl (pv_assign (v := .int _ _) rfl rfl) ?_
                  refine xl_nil ?_
                  refine xthen_normal ?_
                  refine xc_seq ?_
                  refine xc_region ?_
                  refine xl_pure rfl rfl rfl (pv_move (v := .slice _ _ _) rfl rfl) ?_
                  refine xl_pure rfl rfl rfl (pv_assign (v := .slice _ _ _) rfl rfl) ?_
                  refine xl_nil ?_
                  refine xthen_normal ?_
                  refine xc_seq ?_
                  refine xc_region ?_
                  refine xl_pure rfl rfl rfl (pv_move (v := .int _ _) rfl rfl) ?_
                  refine xl_pure rfl rfl rfl (pv_move (v := .int _ _) rfl rfl) ?_
                  refine xl_ndec rfl rfl rfl (pv_neq rfl rfl rfl) (fun h13_2 => ?_) (fun h13_2 => ?_)
                  · skip
                    refine xl_pure rfl rfl rfl (pv_move (v := .bool _) rfl rfl) ?_
                    refine xl_pure rfl rfl rfl (pv_move (v := .int _ _) rfl rfl) ?_
                    refine xl_pure rfl rfl rfl (pv_move (v := .int _ _) rfl rfl) ?_
                    refine xl_ndec rfl rfl rfl (pv_neq rfl rfl rfl) (fun h13_6 => ?_) (fun h13_6 => ?_)
                    · skip
                      refine xl_pure rfl rfl rfl (pv_pick_f (v := .bool _) rfl rfl rfl) ?_
                      refine xl_pure rfl rfl rfl (pv_move (v := .bool _) rfl rfl) ?_
                      refine xl_pure rfl rfl rfl (pv_move (v := .pointer _) rfl rfl) ?_
                      refine xl_heavy rfl rfl rfl (hv_call (g := 13) rfl rfl (c13 mp hR11_5 hc11_5 hna11_5  hltn hgn) rfl) ?_
                      rintro v13_10 H13_10 ⟨a13_10, c13_10, rfl, hQ13_10, hE13_10⟩
                      have mp := mp.ext hE13_10
                      have hR := hR.ext hE13_10
                      have hQ := hQ.ext hE13_10
                      have hQ10_5 := hQ10_5.ext hE13_10
                      have hR11_5 := hR11_5.ext hE13_10
                      have hX := hX.trans hE13_10
                      refine xl_pure rfl rfl rfl (pv_move (v := .slice _ _ _) rfl rfl) ?_
                      refine xl_heavy rfl rfl rfl (hv_call (g := 12) rfl rfl (c12 (actX (ast (lds L L.length) A i) (gr A i)) (actX (ast (lds L L.length) A i) (gr A i)) _ _ _ _ hQ13_10.rows hQ10_5.rows (by omega)) rfl) ?_
                      rintro v13_12 H13_12 ⟨r13_12, rfl, hb13_12, rfl⟩
                      obtain rfl : r13_12 = true := hb13_12.2 rfl
                      refine xl_pure rfl rfl rfl (pv_not rfl rfl) ?_
                      refine xl_pure rfl rfl rfl (pv_pick_f (v := .bool _) rfl rfl rfl) ?_
                      refine xl_pure rfl rfl rfl (pv_move (v := .bool _) rfl rfl) ?_
                      refine xl_pure rfl rfl rfl (pv_move (v := .pointer _) rfl rfl) ?_
                      refine xl_heavy rfl rfl rfl (hv_call (g := 14) rfl rfl (c14 (x := (actX (ast (lds L L.length) A i) (gr A i))) mp) rfl) ?_
                      rintro v13_17 H13_17 ⟨rfl, rfl⟩
                      refine xl_pure rfl rfl rfl (pv_move (v := .slice _ _ _) rfl rfl) ?_
                      refine xl_heavy rfl rfl rfl (hv_call (g := 15) rfl rfl (c15 hQ10_5 hgn (by omega)) rfl) ?_
                      rintro v13_19 H13_19 ⟨rfl, rfl⟩
                      refine xl_ndec rfl rfl rfl (pv_neq rfl rfl rfl) (fun h13_20 => ?_) (fun h13_20 => ?_)
                      · skip
                        refine xl_pure rfl rfl rfl (pv_pick_f (v := .bool _) rfl rfl rfl) ?_
                        refine xl_nil ?_
                        refine xthen_normal ?_
                        refine xc_cond_f rfl ?_
                        refine xc_skip ?_
                        refine xblock_normal ?_
                        refine xthen_normal ?_
                        refine xc_region ?_
                        refine xl_pure rfl rfl rfl (pv_move (v := .int _ _) rfl rfl) ?_
                        refine xl_pure rfl rfl rfl (pv_add rfl rfl rfl (fit_i64 (by omega))) ?_
                        refine xl_pure rfl rfl rfl (pv_assign (v := .int _ _) rfl rfl) ?_
                        refine xl_nil ?_
                        refine xthen_normal ?_
                        exact ⟨(i + 1, _, _, _, _), ⟨rfl, rfl, rfl, slv (by rw [ast_take (by omega)]), rfl, trivial⟩, ⟨by (try simp only); omega, by rw [ast_take (by omega)]; exact mp, by rw [ast_take (by omega)]; exact hR11_5, by rw [ast_take (by omega)]; exact hc11_5, hna11_5, by rw [ast_take (by omega)]; exact hQ10_5, by rw [ast_take (by omega)]; exact hc10_5, hX⟩, by (try simp only); omega⟩
                      · exact absurd rfl h13_20
                    · exact absurd rfl h13_6
                  · exact absurd rfl h13_2
                · exact absurd rfl h8_6
              · skip
                refine xl_pure rfl rfl rfl (pv_move (v := .bool _) rfl rfl) ?_
                refine xl_skip rfl rfl rfl ?_
                refine xl_skip rfl rfl rfl ?_
                refine xl_pure rfl rfl rfl (pv_pick_f (v := .bool _) rfl rfl rfl) ?_
                refine xl_nil ?_
                refine xthen_normal ?_
                refine xc_cond_f rfl ?_
                refine xc_exit ?_
                refine xthen_exit ?_
                refine xthen_exit ?_
                refine xblock_same ?_
                refine xthen_normal ?_
                refine xc_seq ?_
                refine xc_region ?_
                refine xl_pure rfl rfl rfl (pv_move (v := .int _ _) rfl rfl) ?_
                refine xl_ndec rfl rfl rfl (pv_neq rfl rfl rfl) (fun h15_1 => ?_) (fun h15_1 => ?_)
                · skip
                  refine xl_pure rfl rfl rfl (pv_move (v := .bool _) rfl rfl) ?_
                  refine xl_pure rfl rfl rfl (pv_move (v := .pointer _) rfl rfl) ?_
                  refine xl_heavy rfl rfl rfl (hv_call (g := 13) rfl rfl (c13 mp hR hc1 hna1 hlt hgi) rfl) ?_
                  rintro v15_4 H15_4 ⟨a15_4, c15_4, rfl, hQ15_4, hE15_4⟩
                  have mp := mp.ext hE15_4
                  have hR := hR.ext hE15_4
                  have hQ := hQ.ext hE15_4
                  have hX := hX.trans hE15_4
                  refine xl_pure rfl rfl rfl (pv_move (v := .slice _ _ _) rfl rfl) ?_
                  refine xl_heavy rfl rfl rfl (hv_call (g := 12) rfl rfl (c12 (ast (lds L L.length) A i) (ast (lds L L.length) A i) _ _ _ _ hQ15_4.rows hQ.rows (by omega)) rfl) ?_
                  rintro v15_6 H15_6 ⟨r15_6, rfl, hb15_6, rfl⟩
                  obtain rfl : r15_6 = true := hb15_6.2 rfl
                  refine xl_pure rfl rfl rfl (pv_pick_f (v := .bool _) rfl rfl rfl) ?_
                  refine xl_pure rfl rfl rfl (pv_move (v := .bool _) rfl rfl) ?_
                  refine xl_heavy rfl rfl rfl (hv_call (g := 7) rfl rfl (c7) rfl) ?_
                  rintro v15_9 H15_9 ⟨rfl, hE15_9⟩
                  have mp := mp.ext hE15_9
                  have hR := hR.ext hE15_9
                  have hQ := hQ.ext hE15_9
                  have hQ15_4 := hQ15_4.ext hE15_9
                  have hX := hX.trans hE15_9
                  refine xl_pure rfl rfl rfl (pv_pick_t (v := .bool _) rfl rfl rfl) ?_
                  refine xl_pure rfl rfl rfl (pv_assign (v := .bool _) rfl rfl) ?_
                  refine xl_nil ?_
                  refine xthen_normal ?_
                  refine xc_ret ?_
                  refine fin_ret (res1 (v := .bool _) rfl rfl) ?_
                  exact ⟨rfl, hX⟩
                · exact absurd rfl h15_1
          · exact absurd rfl h5_7
        · exact absurd rfl h5_2
      · skip
        refine xl_pure rfl rfl rfl (pv_move (v := .tuple _) rfl rfl) ?_
        refine xl_pure rfl rfl rfl (pv_extract (v := .pointer _) rfl rfl rfl) ?_
        refine xl_pure rfl rfl rfl (pv_extract (v := .int _ _) rfl rfl rfl) ?_
        refine xl_pure rfl rfl rfl (pv_assign (v := .pointer _) rfl rfl) ?_
        refine xl_pure rfl rfl rfl (pv_assign (v := .int _ _) rfl rfl) ?_
        refine xl_nil ?_
        refine xthen_normal ?_
        refine xc_seq ?_
        refine xc_region ?_
        refine xl_pure rfl rfl rfl (pv_move (v := .slice _ _ _) rfl rfl) ?_
        refine xl_heavy rfl rfl rfl (hv_call (g := 9) rfl rfl (c9 (hL.ext hX) (by omega)) rfl) ?_
        rintro v4_1 H4_1 ⟨e4_1, hl4_1, hv4_1, hE4_1⟩
        have hX := hX.trans hE4_1
        have he4_1 := hl4_1.uniq hl3_1
        rw [he4_1] at hv4_1
        obtain rfl : v4_1 = .tuple #[.slice none 0 0, .int .i64 e3_1] := by rcases hv4_1 with ⟨h, _⟩ | ⟨_, h⟩; exact absurd h hne; exact h
        refine xl_pure rfl rfl rfl (pv_move (v := .tuple _) rfl rfl) ?_
        refine xl_pure rfl rfl rfl (pv_extract (v := .slice _ _ _) rfl rfl rfl) ?_
        refine xl_pure rfl rfl rfl (pv_extract (v := .int _ _) rfl rfl rfl) ?_
        refine xl_pure rfl rfl rfl (pv_assign (v := .slice _ _ _) rfl rfl) ?_
        refine xl_pure rfl rfl rfl (pv_assign (v := .int _ _) rfl rfl) ?_
        refine xl_nil ?_
        refine xthen_normal ?_
        refine xc_seq ?_
        refine xc_seq ?_
        refine xc_region ?_
        refine xl_pure rfl rfl rfl (pv_move (v := .int _ _) rfl rfl) ?_
        refine xl_pure rfl rfl rfl (pv_move (v := .int _ _) rfl rfl) ?_
        refine xl_ndec rfl rfl rfl (pv_neq rfl rfl rfl) (fun h5_2 => ?_) (fun h5_2 => ?_)
        · skip
          refine xl_pure rfl rfl rfl (pv_move (v := .bool _) rfl rfl) ?_
          refine xl_pure rfl rfl rfl (pv_move (v := .pointer _) rfl rfl) ?_
          refine xl_pure rfl rfl rfl (pv_neq_nn rfl rfl rfl) ?_
          refine xl_pure rfl rfl rfl (pv_move (v := .int _ _) rfl rfl) ?_
          refine xl_dec rfl rfl rfl (pv_eql rfl rfl rfl) (fun h5_7 => ?_) (fun h5_7 => ?_)
          · exact absurd h5_7 hne
          · skip
            refine xl_pure rfl rfl rfl (pv_neq_b rfl rfl rfl) ?_
            refine xl_pure rfl rfl rfl (pv_pick_f (v := .bool _) rfl rfl rfl) ?_
            refine xl_nil ?_
            refine xthen_normal ?_
            refine xc_cond_f rfl ?_
            refine xc_skip ?_
            refine xthen_normal ?_
            refine xc_seq ?_
            refine xc_seq ?_
            refine xc_region ?_
            refine xl_pure rfl rfl rfl (pv_assign (v := .int _ _) rfl rfl) ?_
            refine xl_nil ?_
            refine xthen_normal ?_
            refine xc_block ?_
            refine xc_loop (τ := Unit) (fun t => [(1, .slice aA A.length cA), (5, .pointer none), (6, .int .i64 e3_1), (7, .slice none 0 0), (9, .int .i64 0)]) (fun t H' => (True) ∧ (Ext H H')) (fun t H' => 0) () ?_ ?_ ?_
            · exact ⟨rfl, rfl, rfl, rfl, rfl, trivial⟩
            · skip
              exact ⟨trivial, hX⟩
            · intro σ
              clear hX
              rintro t Hl8 ⟨hT, hX⟩
              replace hT : True := hT
              replace hX : Ext H Hl8 := hX
              show XC _ _ _ (upds σ [(1, .slice aA A.length cA), (5, .pointer none), (6, .int .i64 e3_1), (7, .slice none 0 0), (9, .int .i64 0)]) _
              refine xc_seq ?_
              refine xc_seq ?_
              refine xc_region ?_
              refine xl_pure rfl rfl rfl (pv_move (v := .int _ _) rfl rfl) ?_
              refine xl_pure rfl rfl rfl (pv_move (v := .slice _ _ _) rfl rfl) ?_
              refine xl_pure rfl rfl rfl (pv_len_l rfl rfl) ?_
              refine xl_dec rfl rfl rfl (pv_lss rfl rfl rfl) (fun h8_3 => ?_) (fun h8_3 => ?_)
              · skip
                refine xl_pure rfl rfl rfl (pv_move (v := .bool _) rfl rfl) ?_
                refine xl_pure rfl rfl rfl (pv_move (v := .int _ _) rfl rfl) ?_
                refine xl_dec rfl rfl rfl (pv_eql rfl rfl rfl) (fun h8_6 => ?_) (fun h8_6 => ?_)
                · exact absurd h8_6 hne
                · skip
                  refine xl_pure rfl rfl rfl (pv_pick_t (v := .bool _) rfl rfl rfl) ?_
                  refine xl_nil ?_
                  refine xthen_normal ?_
                  refine xc_cond_f rfl ?_
                  refine xc_exit ?_
                  refine xthen_exit ?_
                  refine xthen_exit ?_
                  refine xblock_same ?_
                  refine xthen_normal ?_
                  refine xc_seq ?_
                  refine xc_region ?_
                  refine xl_pure rfl rfl rfl (pv_move (v := .int _ _) rfl rfl) ?_
                  refine xl_ndec rfl rfl rfl (pv_neq rfl rfl rfl) (fun h15_1 => ?_) (fun h15_1 => ?_)
                  · exact absurd h15_1 hne
                  · skip
                    refine xl_pure rfl rfl rfl (pv_move (v := .bool _) rfl rfl) ?_
                    refine xl_skip rfl rfl rfl ?_
                    refine xl_skip rfl rfl rfl ?_
                    refine xl_skip rfl rfl rfl ?_
                    refine xl_skip rfl rfl rfl ?_
                    refine xl_pure rfl rfl rfl (pv_pick_t (v := .bool _) rfl rfl rfl) ?_
                    refine xl_pure rfl rfl rfl (pv_move (v := .bool _) rfl rfl) ?_
                    refine xl_heavy rfl rfl rfl (hv_call (g := 7) rfl rfl (c7) rfl) ?_
                    rintro v15_9 H15_9 ⟨rfl, hE15_9⟩
                    have hX := hX.trans hE15_9
                    refine xl_pure rfl rfl rfl (pv_pick_t (v := .bool _) rfl rfl rfl) ?_
                    refine xl_pure rfl rfl rfl (pv_assign (v := .bool _) rfl rfl) ?_
                    refine xl_nil ?_
                    refine xthen_normal ?_
                    refine xc_ret ?_
                    refine fin_ret (res1 (v := .bool _) rfl rfl) ?_
                    exact ⟨rfl, hX⟩
              · skip
                refine xl_pure rfl rfl rfl (pv_move (v := .bool _) rfl rfl) ?_
                refine xl_skip rfl rfl rfl ?_
                refine xl_skip rfl rfl rfl ?_
                refine xl_pure rfl rfl rfl (pv_pick_f (v := .bool _) rfl rfl rfl) ?_
                refine xl_nil ?_
                refine xthen_normal ?_
                refine xc_cond_f rfl ?_
                refine xc_exit ?_
                refine xthen_exit ?_
                refine xthen_exit ?_
                refine xblock_same ?_
                refine xthen_normal ?_
                refine xc_seq ?_
                refine xc_region ?_
                refine xl_pure rfl rfl rfl (pv_move (v := .int _ _) rfl rfl) ?_
                refine xl_ndec rfl rfl rfl (pv_neq rfl rfl rfl) (fun h15_1 => ?_) (fun h15_1 => ?_)
                · exact absurd h15_1 hne
                · skip
                  refine xl_pure rfl rfl rfl (pv_move (v := .bool _) rfl rfl) ?_
                  refine xl_skip rfl rfl rfl ?_
                  refine xl_skip rfl rfl rfl ?_
                  refine xl_skip rfl rfl rfl ?_
                  refine xl_skip rfl rfl rfl ?_
                  refine xl_pure rfl rfl rfl (pv_pick_t (v := .bool _) rfl rfl rfl) ?_
                  refine xl_pure rfl rfl rfl (pv_move (v := .bool _) rfl rfl) ?_
                  refine xl_heavy rfl rfl rfl (hv_call (g := 7) rfl rfl (c7) rfl) ?_
                  rintro v15_9 H15_9 ⟨rfl, hE15_9⟩
                  have hX := hX.trans hE15_9
                  refine xl_pure rfl rfl rfl (pv_pick_t (v := .bool _) rfl rfl rfl) ?_
                  refine xl_pure rfl rfl rfl (pv_assign (v := .bool _) rfl rfl) ?_
                  refine xl_nil ?_
                  refine xthen_normal ?_
                  refine xc_ret ?_
                  refine fin_ret (res1 (v := .bool _) rfl rfl) ?_
                  exact ⟨rfl, hX⟩
        · exact absurd rfl h5_2
end Go.XG
