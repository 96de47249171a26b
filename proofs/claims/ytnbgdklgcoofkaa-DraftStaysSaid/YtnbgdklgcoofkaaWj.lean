/-
  Walks of the seat's functions over the logic XG: each function, what it computes. Printed by a program out of wip/walks.py.
-/
import Derived.Test.YtnbgdklgcoofkaaI
import Derived.Test.YtnbgdklgcoofkaaTo
import Derived.Test.YtnbgdklgcoofkaaTa
import Derived.Test.YtnbgdklgcoofkaaTb
import Derived.Test.YtnbgdklgcoofkaaTc
import Derived.Test.YtnbgdklgcoofkaaTd
import Derived.Test.YtnbgdklgcoofkaaP
import Derived.Test.YtnbgdklgcoofkaaWa
import Derived.Test.YtnbgdklgcoofkaaWb
import Derived.Test.YtnbgdklgcoofkaaWc
import Derived.Test.YtnbgdklgcoofkaaQ
import Derived.Test.YtnbgdklgcoofkaaWd
import Derived.Test.YtnbgdklgcoofkaaWe
import Derived.Test.YtnbgdklgcoofkaaWf
import Derived.Test.YtnbgdklgcoofkaaWg
import Derived.Test.YtnbgdklgcoofkaaWh
import Derived.Test.YtnbgdklgcoofkaaWi
namespace Go.XG
open Go.Proofs
set_option maxRecDepth 4000
set_option maxHeartbeats 4000000
theorem c5 {O : Outer} {H : Heap} {al : Option Addr} {cl : Nat} {L : List (List Int)} (hL : Rows H al 9 L) (w : Int) {aA : Option Addr} {cA : Nat} {A : List (List Int)} (hA : Rows H aA 13 A) :
    FnC Try.prog 5 #[.slice al L.length cl, .int .i64 w, .slice aA A.length cA] O H (fun v H' => v = .bool true ∧ Ext H H') := by
  refine fn_enter (A := [.slice al L.length cl, .int .i64 w, .slice aA A.length cA]) Try.func5 rfl rfl ?_
  have hX := Ext.refl H
  refine xc_seq ?_
  refine xc_region ?_
  refine xl_pure rfl rfl rfl (pv_assign (v := .bool _) rfl rfl) ?_
  refine xl_nil ?_
  refine xthen_normal ?_
  refine xc_seq ?_
  refine xc_seq ?_
  refine xc_region ?_
  refine xl_pure rfl rfl rfl (pv_move (v := .slice _ _ _) rfl rfl) ?_
  refine xl_pure rfl rfl rfl (pv_len_l rfl rfl) ?_
  refine xl_dec rfl rfl rfl (pv_gtr rfl rfl rfl) (fun h1_2 => ?_) (fun h1_2 => ?_)
  · skip
    refine xl_pure rfl rfl rfl (pv_move (v := .bool _) rfl rfl) ?_
    refine xl_skip rfl rfl rfl ?_
    refine xl_skip rfl rfl rfl ?_
    refine xl_skip rfl rfl rfl ?_
    refine xl_pure rfl rfl rfl (pv_pick_t (v := .bool _) rfl rfl rfl) ?_
    refine xl_nil ?_
    refine xthen_normal ?_
    refine xc_cond_t rfl ?_
    refine xc_seq ?_
    refine xc_region ?_
    refine xl_heavy rfl rfl rfl (hv_call (g := 7) rfl rfl (c7) rfl) ?_
    rintro v2_0 H2_0 ⟨rfl, hE2_0⟩
    have hX := hX.trans hE2_0
    refine xl_pure rfl rfl rfl (pv_assign (v := .bool _) rfl rfl) ?_
    refine xl_nil ?_
    refine xthen_normal ?_
    refine xc_ret ?_
    refine xthen_ret ?_
    refine fin_ret (res1 (v := .bool _) rfl rfl) ?_
    exact ⟨rfl, hX⟩
  · skip
    refine xl_pure rfl rfl rfl (pv_move (v := .bool _) rfl rfl) ?_
    refine xl_pure rfl rfl rfl (pv_move (v := .slice _ _ _) rfl rfl) ?_
    refine xl_pure rfl rfl rfl (pv_len_l rfl rfl) ?_
    refine xl_dec rfl rfl rfl (pv_gtr rfl rfl rfl) (fun h1_6 => ?_) (fun h1_6 => ?_)
    · skip
      refine xl_pure rfl rfl rfl (pv_pick_f (v := .bool _) rfl rfl rfl) ?_
      refine xl_nil ?_
      refine xthen_normal ?_
      refine xc_cond_t rfl ?_
      refine xc_seq ?_
      refine xc_region ?_
      refine xl_heavy rfl rfl rfl (hv_call (g := 7) rfl rfl (c7) rfl) ?_
      rintro v2_0 H2_0 ⟨rfl, hE2_0⟩
      have hX := hX.trans hE2_0
      refine xl_pure rfl rfl rfl (pv_assign (v := .bool _) rfl rfl) ?_
      refine xl_nil ?_
      refine xthen_normal ?_
      refine xc_ret ?_
      refine xthen_ret ?_
      refine fin_ret (res1 (v := .bool _) rfl rfl) ?_
      exact ⟨rfl, hX⟩
    · skip
      refine xl_pure rfl rfl rfl (pv_pick_f (v := .bool _) rfl rfl rfl) ?_
      refine xl_nil ?_
      refine xthen_normal ?_
      refine xc_cond_f rfl ?_
      refine xc_skip ?_
      refine xthen_normal ?_
      refine xc_seq ?_
      refine xc_region ?_
      refine xl_pure rfl rfl rfl (pv_move (v := .slice _ _ _) rfl rfl) ?_
      refine xl_pure rfl rfl rfl (pv_move (v := .int _ _) rfl rfl) ?_
      refine xl_heavy rfl rfl rfl (hv_call (g := 16) rfl rfl (c16 hL (by omega) w) rfl) ?_
      rintro v3_2 H3_2 ⟨hv3_2, hE3_2⟩
      have hX := hX.trans hE3_2
      rcases hv3_2 with ⟨bp, a, c, l, rfl, hw, gbp, mp, hR, hc, hna, hg, hll⟩ | ⟨e0, rfl, hne⟩
      · skip
        have hl6 : l.length < 1000000 := by omega
        refine xl_pure rfl rfl rfl (pv_move (v := .tuple _) rfl rfl) ?_
        refine xl_pure rfl rfl rfl (pv_extract (v := .pointer _) rfl rfl rfl) ?_
        refine xl_pure rfl rfl rfl (pv_extract (v := .int _ _) rfl rfl rfl) ?_
        refine xl_pure rfl rfl rfl (pv_assign (v := .pointer _) rfl rfl) ?_
        refine xl_pure rfl rfl rfl (pv_assign (v := .int _ _) rfl rfl) ?_
        refine xl_nil ?_
        refine xthen_normal ?_
        refine xc_seq ?_
        refine xc_seq ?_
        refine xc_region ?_
        refine xl_pure rfl rfl rfl (pv_move (v := .int _ _) rfl rfl) ?_
        refine xl_ndec rfl rfl rfl (pv_neq rfl rfl rfl) (fun h4_1 => ?_) (fun h4_1 => ?_)
        · skip
          refine xl_nil ?_
          refine xthen_normal ?_
          refine xc_cond_f rfl ?_
          refine xc_skip ?_
          refine xthen_normal ?_
          refine xc_seq ?_
          refine xc_seq ?_
          refine xc_region ?_
          refine xl_pure rfl rfl rfl (pv_move (v := .pointer _) rfl rfl) ?_
          refine xl_pure rfl rfl rfl (pv_eql_pn rfl rfl rfl) ?_
          refine xl_nil ?_
          refine xthen_normal ?_
          refine xc_cond_f rfl ?_
          refine xc_skip ?_
          refine xthen_normal ?_
          refine xc_seq ?_
          refine xc_region ?_
          refine xl_pure rfl rfl rfl (pv_move (v := .pointer _) rfl rfl) ?_
          refine xl_heavy rfl rfl rfl (hv_call (g := 13) rfl rfl (c13 mp hR hc hna hl6 hg) rfl) ?_
          rintro v8_1 H8_1 ⟨b8_1, rfl, m8_1, hF8_1, hE8_1⟩
          have gb8_1 : Fresh H b8_1 := ⟨Nat.le_trans hX.size hF8_1.le⟩
          have nmp_8_1 : Apart bp b8_1 := ⟨Nat.ne_of_lt (Nat.lt_of_lt_of_le mp.lt hF8_1.le)⟩
          have mp := mp.ext hE8_1
          have hR := hR.ext hE8_1
          have hX := hX.trans hE8_1
          have hR0 := hR
          refine xl_pure rfl rfl rfl (pv_move (v := .pointer _) rfl rfl) ?_
          refine xl_heavy rfl rfl rfl (hv_call (g := 14) rfl rfl (c14 mp hR hc hna hl6 hg) rfl) ?_
          rintro v8_3 H8_3 ⟨a8_3, c8_3, rfl, hQ8_3, hE8_3⟩
          have mp := mp.ext hE8_3
          have hR := hR.ext hE8_3
          have m8_1 := m8_1.ext hE8_3
          have hR0 := hR0.ext hE8_3
          have hX := hX.trans hE8_3
          refine xl_pure rfl rfl rfl (pv_assign (v := .pointer _) rfl rfl) ?_
          refine xl_pure rfl rfl rfl (pv_assign (v := .slice _ _ _) rfl rfl) ?_
          refine xl_nil ?_
          refine xthen_normal ?_
          refine xc_seq ?_
          refine xc_seq ?_
          refine xc_region ?_
          refine xl_pure rfl rfl rfl (pv_assign (v := .int _ _) rfl rfl) ?_
          refine xl_nil ?_
          refine xthen_normal ?_
          refine xc_block ?_
          refine xc_loop (τ := Nat × Option Addr × Nat × List (List Int) × Int) (fun t => [(1, .int .i64 w), (2, .slice aA A.length cA), (7, .pointer (some ⟨bp, 0, none⟩)), (9, .pointer (some ⟨b8_1, 0, none⟩)), (10, .slice a8_3 (l.map fun r => r.drop 4).length c8_3), (11, .int .i64 (t.1 : Nat))]) (fun t H' => (t.1 ≤ A.length) ∧ (Blk H' bp [.slice t.2.1 (t.2.2.2.1).length t.2.2.1, .int .i64 t.2.2.2.2] 29) ∧ (RowsT H' 75 13 t.2.1 t.2.2.2.1) ∧ (t.2.2.2.1.length ≤ t.2.2.1) ∧ (t.2.1 = none → t.2.2.1 = 0) ∧ (Goo t.2.2.2.1) ∧ (0 ≤ t.2.2.2.2) ∧ (t.2.2.2.2 ≤ 1099511627776) ∧ (t.2.2.2.1.length ≤ 64 + 10 * t.1) ∧ (Blk H' b8_1 [.slice a (l).length c, .int .i64 (w - 1)] 29) ∧ (RowsT H' 75 13 a l) ∧ (RowsT H' 23 9 a8_3 (l.map fun r => r.drop 4)) ∧ (Ext H H')) (fun t H' => A.length - t.1) (0, a, c, l, w - 1) ?_ ?_ ?_
          · exact ⟨rfl, rfl, rfl, rfl, rfl, rfl, trivial⟩
          · skip
            exact ⟨Nat.zero_le _, mp, hR, hc, hna, hg, (show 0 ≤ w - 1 by omega), (show w - 1 ≤ 1099511627776 by omega), (show l.length ≤ 64 + 10 * 0 by omega), m8_1, hR0, hQ8_3, hX⟩
          · intro σ
            clear hX mp hR m8_1 hR0 hQ8_3
            rintro ⟨i, a1, c1, l1, g1⟩ Hl10 ⟨hi, mp, hR, hc1, hna1, hgl, hgA, hgB, hln, m8_1, hR0, hQ8_3, hX⟩
            replace hi : i ≤ A.length := hi
            replace mp : Blk Hl10 bp [.slice a1 (l1).length c1, .int .i64 g1] 29 := mp
            replace hR : RowsT Hl10 75 13 a1 l1 := hR
            replace hc1 : l1.length ≤ c1 := hc1
            replace hna1 : a1 = none → c1 = 0 := hna1
            replace hgl : Goo l1 := hgl
            replace hgA : 0 ≤ g1 := hgA
            replace hgB : g1 ≤ 1099511627776 := hgB
            replace hln : l1.length ≤ 64 + 10 * i := hln
            replace m8_1 : Blk Hl10 b8_1 [.slice a (l).length c, .int .i64 (w - 1)] 29 := m8_1
            replace hR0 : RowsT Hl10 75 13 a l := hR0
            replace hQ8_3 : RowsT Hl10 23 9 a8_3 (l.map fun r => r.drop 4) := hQ8_3
            replace hX : Ext H Hl10 := hX
            have hl16 : l1.length < 1000000 := by omega
            obtain ⟨bA, ofA, hAe⟩ := (hA.ext hX).at'
            show XC _ _ _ (upds σ [(1, .int .i64 w), (2, .slice aA A.length cA), (7, .pointer (some ⟨bp, 0, none⟩)), (9, .pointer (some ⟨b8_1, 0, none⟩)), (10, .slice a8_3 (l.map fun r => r.drop 4).length c8_3), (11, .int .i64 (i : Nat))]) _
            refine xc_seq ?_
            refine xc_seq ?_
            refine xc_region ?_
            refine xl_pure rfl rfl rfl (pv_move (v := .int _ _) rfl rfl) ?_
            refine xl_pure rfl rfl rfl (pv_move (v := .slice _ _ _) rfl rfl) ?_
            refine xl_pure rfl rfl rfl (pv_len_l rfl rfl) ?_
            refine xl_dec rfl rfl rfl (pv_lss rfl rfl rfl) (fun h10_3 => ?_) (fun h10_3 => ?_)
            · skip
              refine xl_nil ?_
              refine xthen_normal ?_
              refine xc_cond_t rfl ?_
              refine xc_skip ?_
              refine xthen_normal ?_
              refine xc_seq ?_
              refine xc_block ?_
              refine xc_seq ?_
              refine xc_region ?_
              refine xl_pure rfl rfl rfl (pv_move (v := .pointer _) rfl rfl) ?_
              refine xl_heavy rfl rfl rfl (hv_call (g := 14) rfl rfl (c14 mp hR hc1 hna1 hl16 hgl) rfl) ?_
              rintro v12_1 H12_1 ⟨a12_1, c12_1, rfl, hQ12_1, hE12_1⟩
              have mp := mp.ext hE12_1
              have hR := hR.ext hE12_1
              have m8_1 := m8_1.ext hE12_1
              have hR0 := hR0.ext hE12_1
              have hQ8_3 := hQ8_3.ext hE12_1
              have hX := hX.trans hE12_1
              refine xl_pure rfl rfl rfl (pv_move (v := .pointer _) rfl rfl) ?_
              refine xl_heavy rfl rfl rfl (hv_call (g := 15) rfl rfl (c15 mp hgA hgB) rfl) ?_
              rintro v12_3 H12_3 ⟨rfl, rfl⟩
              refine xl_pure rfl rfl rfl (pv_assign (v := .slice _ _ _) rfl rfl) ?_
              refine xl_pure rfl rfl rfl (pv_assign (v := .int _ _) rfl rfl) ?_
              refine xl_nil ?_
              refine xthen_normal ?_
              refine xc_seq ?_
              obtain ⟨bA, ofA, hAe⟩ := (hA.ext hX).at'
              refine xc_region ?_
              refine xl_pure rfl rfl rfl (pv_move (v := .pointer _) rfl rfl) ?_
              refine xl_pure rfl rfl rfl (pv_move (v := .slice _ _ _) rfl rfl) ?_
              refine xl_pure rfl rfl rfl (pv_move (v := .int _ _) rfl rfl) ?_
              refine xl_pure rfl rfl rfl (pv_indexAddr_l rfl (sl_eq (hAe (by omega)).1) rfl (by omega)) ?_
              refine xl_light rfl rfl rfl (lv_load (v := .agg _) rfl rfl (by exact ld_row' (hAe (by omega)).2 hA.1 (by omega))) ?_
              refine xl_heavy rfl rfl rfl (hv_call (g := 12) rfl rfl (c12 mp hR hc1 hna1 hl16 hgl hgA hgB (gr A i) (hA.1.get (by omega))) rfl) ?_
              rintro v13_5 H13_5 ⟨a13_5, c13_5, ai13_5, ci13_5, L13_5, g13_5, I13_5, e13_5, rfl, ⟨hB13_5, hT13_5, hR13_5, hc13_5, hna13_5⟩, hI13_5, hD13_5⟩
              have hR := hR.offT mp hB13_5 (by first | rfl | assumption)
              have m8_1 := m8_1.off hB13_5 (by first | exact nmp_8_1.symm | exact ⟨m8_1.ne mp rfl⟩ | exact ⟨m8_1.ne mp (by assumption)⟩ | exact ⟨Ne.symm (mp.ne m8_1 (by assumption))⟩)
              have hR0 := hR0.offT mp hB13_5 (by first | rfl | assumption)
              have hQ8_3 := hQ8_3.offT mp hB13_5 (by first | rfl | assumption)
              have hQ12_1 := hQ12_1.offT mp hB13_5 (by first | rfl | assumption)
              have hX := hX.upd hB13_5 gbp
              have mp := hT13_5
              have hX13_5 := Ext.refl H13_5
              obtain ⟨hd1, hd2, hd3, hd4, hd5, hd6, hd7⟩ := hD13_5
              have hl26 : L13_5.length < 1000000 := by omega
              refine xl_pure rfl rfl rfl (pv_move (v := .tuple _) rfl rfl) ?_
              refine xl_pure rfl rfl rfl (pv_extract (v := .slice _ _ _) rfl rfl rfl) ?_
              refine xl_pure rfl rfl rfl (pv_extract (v := .int _ _) rfl rfl rfl) ?_
              refine xl_pure rfl rfl rfl (pv_assign (v := .slice _ _ _) rfl rfl) ?_
              refine xl_pure rfl rfl rfl (pv_assign (v := .int _ _) rfl rfl) ?_
              refine xl_nil ?_
              refine xthen_normal ?_
              refine xc_seq ?_
              refine xc_seq ?_
              refine xc_region ?_
              refine xl_pure rfl rfl rfl (pv_move (v := .int _ _) rfl rfl) ?_
              refine xl_ndec rfl rfl rfl (pv_neq rfl rfl rfl) (fun h14_1 => ?_) (fun h14_1 => ?_)
              · skip
                refine xl_pure rfl rfl rfl (pv_move (v := .bool _) rfl rfl) ?_
                refine xl_skip rfl rfl rfl ?_
                refine xl_skip rfl rfl rfl ?_
                refine xl_skip rfl rfl rfl ?_
                refine xl_skip rfl rfl rfl ?_
                refine xl_skip rfl rfl rfl ?_
                refine xl_skip rfl rfl rfl ?_
                refine xl_skip rfl rfl rfl ?_
                refine xl_skip rfl rfl rfl ?_
                refine xl_skip rfl rfl rfl ?_
                refine xl_skip rfl rfl rfl ?_
                refine xl_skip rfl rfl rfl ?_
                refine xl_pure rfl rfl rfl (pv_pick_f (v := .bool _) rfl rfl rfl) ?_
                refine xl_pure rfl rfl rfl (pv_move (v := .bool _) rfl rfl) ?_
                refine xl_pure rfl rfl rfl (pv_move (v := .pointer _) rfl rfl) ?_
                refine xl_heavy rfl rfl rfl (hv_call (g := 15) rfl rfl (c15 mp (by omega) hd4) rfl) ?_
                rintro v14_17 H14_17 ⟨rfl, rfl⟩
                refine xl_pure rfl rfl rfl (pv_move (v := .int _ _) rfl rfl) ?_
                refine xl_dec rfl rfl rfl (pv_lss rfl rfl rfl) (fun h14_19 => ?_) (fun h14_19 => ?_)
                · exact absurd h14_19 (by omega)
                · skip
                  refine xl_pure rfl rfl rfl (pv_pick_f (v := .bool _) rfl rfl rfl) ?_
                  refine xl_nil ?_
                  refine xthen_normal ?_
                  refine xc_cond_f rfl ?_
                  refine xc_skip ?_
                  refine xthen_normal ?_
                  refine xc_seq ?_
                  obtain ⟨bA, ofA, hAe⟩ := (hA.ext hX).at'
                  refine xc_region ?_
                  refine xl_pure rfl rfl rfl (pv_move (v := .int _ _) rfl rfl) ?_
                  refine xl_dec rfl rfl rfl (pv_eql rfl rfl rfl) (fun h16_1 => ?_) (fun h16_1 => ?_)
                  · skip
                    refine xl_pure rfl rfl rfl (pv_move (v := .bool _) rfl rfl) ?_
                    refine xl_pure rfl rfl rfl (pv_move (v := .slice _ _ _) rfl rfl) ?_
                    refine xl_pure rfl rfl rfl (pv_move (v := .int _ _) rfl rfl) ?_
                    refine xl_pure rfl rfl rfl (pv_indexAddr_l rfl (sl_eq (hAe (by omega)).1) rfl (by omega)) ?_
                    refine xl_pure rfl rfl rfl (pv_fieldAddr rfl rfl) ?_
                    refine xl_light rfl rfl rfl (lv_load (v := .int _ _) rfl rfl (by exact ld_num (j := 0) (hAe (by omega)).2 hA.1 (by omega) (by decide))) ?_
                    refine xl_dec rfl rfl rfl (pv_eql rfl rfl rfl) (fun h16_8 => ?_) (fun h16_8 => ?_)
                    · skip
                      refine xl_pure rfl rfl rfl (pv_move (v := .bool _) rfl rfl) ?_
                      refine xl_skip rfl rfl rfl ?_
                      refine xl_skip rfl rfl rfl ?_
                      refine xl_skip rfl rfl rfl ?_
                      refine xl_skip rfl rfl rfl ?_
                      refine xl_skip rfl rfl rfl ?_
                      refine xl_skip rfl rfl rfl ?_
                      refine xl_pure rfl rfl rfl (pv_pick_t (v := .bool _) rfl rfl rfl) ?_
                      refine xl_pure rfl rfl rfl (pv_pick_t (v := .bool _) rfl rfl rfl) ?_
                      refine xl_nil ?_
                      refine xthen_normal ?_
                      refine xc_cond_t rfl ?_
                      refine xc_seq ?_
                      have hk : (gr A i).getD 0 0 = 1 ∨ (gr A i).getD 0 0 = 5 := by first | exact .inl h16_8 | exact .inr h16_15
                      have hids := hd6 h16_1 hk
                      refine xc_region ?_
                      refine xl_pure rfl rfl rfl (pv_assign (v := .int _ _) rfl rfl) ?_
                      refine xl_nil ?_
                      refine xthen_normal ?_
                      refine xc_block ?_
                      refine xc_loop (τ := Nat) (fun t => [(1, .int .i64 w), (2, .slice aA A.length cA), (7, .pointer (some ⟨bp, 0, none⟩)), (9, .pointer (some ⟨b8_1, 0, none⟩)), (10, .slice a8_3 (l.map fun r => r.drop 4).length c8_3), (11, .int .i64 (i : Nat)), (13, .int .i64 (g1 + 1)), (14, .slice ai13_5 I13_5.length ci13_5), (16, .int .i64 (t : Nat))]) (fun t H' => (t ≤ I13_5.length) ∧ (Blk H' bp [.slice a13_5 (L13_5).length c13_5, .int .i64 g13_5] 29) ∧ (RowsT H' 75 13 a13_5 L13_5) ∧ (Blk H' b8_1 [.slice a (l).length c, .int .i64 (w - 1)] 29) ∧ (RowsT H' 75 13 a l) ∧ (RowsT H' 23 9 a8_3 (l.map fun r => r.drop 4)) ∧ (Ext H13_5 H') ∧ (Ext H H')) (fun t H' => I13_5.length - t) 0 ?_ ?_ ?_
                      · exact ⟨rfl, rfl, rfl, rfl, rfl, rfl, rfl, rfl, rfl, trivial⟩
                      · skip
                        exact ⟨Nat.zero_le _, mp, hR13_5, m8_1, hR0, hQ8_3, hX13_5, hX⟩
                      · intro σ
                        clear hX mp hR m8_1 hR0 hQ8_3 hQ12_1 hR13_5 hX13_5
                        rintro j Hl18 ⟨hj, mp, hR13_5, m8_1, hR0, hQ8_3, hX13_5, hX⟩
                        replace hj : j ≤ I13_5.length := hj
                        replace mp : Blk Hl18 bp [.slice a13_5 (L13_5).length c13_5, .int .i64 g13_5] 29 := mp
                        replace hR13_5 : RowsT Hl18 75 13 a13_5 L13_5 := hR13_5
                        replace m8_1 : Blk Hl18 b8_1 [.slice a (l).length c, .int .i64 (w - 1)] 29 := m8_1
                        replace hR0 : RowsT Hl18 75 13 a l := hR0
                        replace hQ8_3 : RowsT Hl18 23 9 a8_3 (l.map fun r => r.drop 4) := hQ8_3
                        replace hX13_5 : Ext H13_5 Hl18 := hX13_5
                        replace hX : Ext H Hl18 := hX
                        have hIr := (hI13_5 hk).ext hX13_5
                        obtain ⟨bI, ofI, hIe⟩ := hIr.at
                        show XC _ _ _ (upds σ [(1, .int .i64 w), (2, .slice aA A.length cA), (7, .pointer (some ⟨bp, 0, none⟩)), (9, .pointer (some ⟨b8_1, 0, none⟩)), (10, .slice a8_3 (l.map fun r => r.drop 4).length c8_3), (11, .int .i64 (i : Nat)), (13, .int .i64 (g1 + 1)), (14, .slice ai13_5 I13_5.length ci13_5), (16, .int .i64 (j : Nat))]) _
                        refine xc_seq ?_
                        refine xc_seq ?_
                        refine xc_region ?_
                        refine xl_pure rfl rfl rfl (pv_move (v := .int _ _) rfl rfl) ?_
                        refine xl_pure rfl rfl rfl (pv_move (v := .slice _ _ _) rfl rfl) ?_
                        refine xl_pure rfl rfl rfl (pv_len_l rfl rfl) ?_
                        refine xl_dec rfl rfl rfl (pv_lss rfl rfl rfl) (fun h18_3 => ?_) (fun h18_3 => ?_)
                        · skip
                          refine xl_nil ?_
                          refine xthen_normal ?_
                          refine xc_cond_t rfl ?_
                          refine xc_skip ?_
                          refine xthen_normal ?_
                          refine xc_seq ?_
                          refine xc_block ?_
                          refine xc_seq ?_
                          have hx : (gr I13_5 (j : Int).toNat).getD 0 0 = g1 + 1 + j := hids j (by omega)
                          refine xc_region ?_
                          refine xl_pure rfl rfl rfl (pv_move (v := .slice _ _ _) rfl rfl) ?_
                          refine xl_pure rfl rfl rfl (pv_move (v := .int _ _) rfl rfl) ?_
                          refine xl_pure rfl rfl rfl (pv_indexAddr_l rfl (sl_eq (hIe (by omega)).1) rfl (by omega)) ?_
                          refine xl_light rfl rfl rfl (lv_load (v := .int _ _) rfl rfl (by exact ld_num (j := 0) (hIe (by omega)).2 hIr.wide (by omega) (by decide))) ?_
                          refine xl_pure rfl rfl rfl (pv_move (v := .int _ _) rfl rfl) ?_
                          refine xl_pure rfl rfl rfl (pv_sub rfl rfl rfl (fit_i64 (by omega))) ?_
                          refine xl_pure rfl rfl rfl (pv_move (v := .int _ _) rfl rfl) ?_
                          refine xl_ndec rfl rfl rfl (pv_neq rfl rfl rfl) (fun h20_7 => ?_) (fun h20_7 => ?_)
                          · first
                            | (exfalso; omega)
                            |  (skip
                                refine xl_nil ?_
                                refine xthen_normal ?_
                                refine xc_cond_f rfl ?_
                                refine xc_skip ?_
                                refine xblock_normal ?_
                                refine xthen_normal ?_
                                refine xc_region ?_
                                refine xl_pure rfl rfl rfl (pv_move (v := .int _ _) rfl rfl) ?_
                                refine xl_pure rfl rfl rfl (pv_add rfl rfl rfl (fit_i64 (by omega))) ?_
                                refine xl_pure rfl rfl rfl (pv_assign (v := .int _ _) rfl rfl) ?_
                                refine xl_nil ?_
                                refine xthen_normal ?_
                                exact ⟨j + 1, ⟨rfl, rfl, rfl, rfl, rfl, rfl, rfl, rfl, rfl, trivial⟩, ⟨by (try simp only); omega, mp, hR13_5, m8_1, hR0, hQ8_3, hX13_5, hX⟩, by (try simp only); omega⟩)
                          · first
                            | (exfalso; omega)
                            |  (skip
                                refine xl_nil ?_
                                refine xthen_normal ?_
                                refine xc_cond_t rfl ?_
                                refine xc_seq ?_
                                refine xc_region ?_
                                refine xl_pure rfl rfl rfl (pv_assign (v := .bool _) rfl rfl) ?_
                                refine xl_nil ?_
                                refine xthen_normal ?_
                                refine xc_ret ?_
                                refine xblock_ret ?_
                                refine xthen_ret ?_
                                refine xthen_ret ?_
                                refine xblock_ret ?_
                                refine xblock_ret ?_
                                refine xthen_ret ?_
                                refine xthen_ret ?_
                                refine xblock_ret ?_
                                refine xthen_ret ?_
                                refine fin_ret (res1 (v := .bool _) rfl rfl) ?_
                                exact ⟨rfl, hX⟩)
                        · skip
                          refine xl_nil ?_
                          refine xthen_normal ?_
                          refine xc_cond_f rfl ?_
                          refine xc_exit ?_
                          refine xthen_exit ?_
                          refine xthen_exit ?_
                          refine xblock_same ?_
                          refine xblock_normal ?_
                          refine xthen_normal ?_
                          refine xc_region ?_
                          refine xl_pure rfl rfl rfl (pv_move (v := .int _ _) rfl rfl) ?_
                          refine xl_pure rfl rfl rfl (pv_add rfl rfl rfl (fit_i64 (by omega))) ?_
                          refine xl_pure rfl rfl rfl (pv_assign (v := .int _ _) rfl rfl) ?_
                          refine xl_nil ?_
                          refine xthen_normal ?_
                          exact ⟨(i + 1, _, _, _, _), ⟨rfl, rfl, rfl, rfl, rfl, rfl, trivial⟩, ⟨by (try simp only); omega, mp, hR13_5, hc13_5, hna13_5, hd2, by (try simp only); omega, hd4, by (try simp only); omega, m8_1, hR0, hQ8_3, hX⟩, by (try simp only); omega⟩
                    · skip
                      refine xl_pure rfl rfl rfl (pv_move (v := .bool _) rfl rfl) ?_
                      refine xl_pure rfl rfl rfl (pv_move (v := .slice _ _ _) rfl rfl) ?_
                      refine xl_pure rfl rfl rfl (pv_move (v := .int _ _) rfl rfl) ?_
                      refine xl_pure rfl rfl rfl (pv_indexAddr_l rfl (sl_eq (hAe (by omega)).1) rfl (by omega)) ?_
                      refine xl_pure rfl rfl rfl (pv_fieldAddr rfl rfl) ?_
                      refine xl_light rfl rfl rfl (lv_load (v := .int _ _) rfl rfl (by exact ld_num (j := 0) (hAe (by omega)).2 hA.1 (by omega) (by decide))) ?_
                      refine xl_dec rfl rfl rfl (pv_eql rfl rfl rfl) (fun h16_15 => ?_) (fun h16_15 => ?_)
                      · skip
                        refine xl_pure rfl rfl rfl (pv_pick_f (v := .bool _) rfl rfl rfl) ?_
                        refine xl_pure rfl rfl rfl (pv_pick_t (v := .bool _) rfl rfl rfl) ?_
                        refine xl_nil ?_
                        refine xthen_normal ?_
                        refine xc_cond_t rfl ?_
                        refine xc_seq ?_
                        have hk : (gr A i).getD 0 0 = 1 ∨ (gr A i).getD 0 0 = 5 := by first | exact .inl h16_8 | exact .inr h16_15
                        have hids := hd6 h16_1 hk
                        refine xc_region ?_
                        refine xl_pure rfl rfl rfl (pv_assign (v := .int _ _) rfl rfl) ?_
                        refine xl_nil ?_
                        refine xthen_normal ?_
                        refine xc_block ?_
                        refine xc_loop (τ := Nat) (fun t => [(1, .int .i64 w), (2, .slice aA A.length cA), (7, .pointer (some ⟨bp, 0, none⟩)), (9, .pointer (some ⟨b8_1, 0, none⟩)), (10, .slice a8_3 (l.map fun r => r.drop 4).length c8_3), (11, .int .i64 (i : Nat)), (13, .int .i64 (g1 + 1)), (14, .slice ai13_5 I13_5.length ci13_5), (16, .int .i64 (t : Nat))]) (fun t H' => (t ≤ I13_5.length) ∧ (Blk H' bp [.slice a13_5 (L13_5).length c13_5, .int .i64 g13_5] 29) ∧ (RowsT H' 75 13 a13_5 L13_5) ∧ (Blk H' b8_1 [.slice a (l).length c, .int .i64 (w - 1)] 29) ∧ (RowsT H' 75 13 a l) ∧ (RowsT H' 23 9 a8_3 (l.map fun r => r.drop 4)) ∧ (Ext H13_5 H') ∧ (Ext H H')) (fun t H' => I13_5.length - t) 0 ?_ ?_ ?_
                        · exact ⟨rfl, rfl, rfl, rfl, rfl, rfl, rfl, rfl, rfl, trivial⟩
                        · skip
                          exact ⟨Nat.zero_le _, mp, hR13_5, m8_1, hR0, hQ8_3, hX13_5, hX⟩
                        · intro σ
                          clear hX mp hR m8_1 hR0 hQ8_3 hQ12_1 hR13_5 hX13_5
                          rintro j Hl18 ⟨hj, mp, hR13_5, m8_1, hR0, hQ8_3, hX13_5, hX⟩
                          replace hj : j ≤ I13_5.length := hj
                          replace mp : Blk Hl18 bp [.slice a13_5 (L13_5).length c13_5, .int .i64 g13_5] 29 := mp
                          replace hR13_5 : RowsT Hl18 75 13 a13_5 L13_5 := hR13_5
                          replace m8_1 : Blk Hl18 b8_1 [.slice a (l).length c, .int .i64 (w - 1)] 29 := m8_1
                          replace hR0 : RowsT Hl18 75 13 a l := hR0
                          replace hQ8_3 : RowsT Hl18 23 9 a8_3 (l.map fun r => r.drop 4) := hQ8_3
                          replace hX13_5 : Ext H13_5 Hl18 := hX13_5
                          replace hX : Ext H Hl18 := hX
                          have hIr := (hI13_5 hk).ext hX13_5
                          obtain ⟨bI, ofI, hIe⟩ := hIr.at
                          show XC _ _ _ (upds σ [(1, .int .i64 w), (2, .slice aA A.length cA), (7, .pointer (some ⟨bp, 0, none⟩)), (9, .pointer (some ⟨b8_1, 0, none⟩)), (10, .slice a8_3 (l.map fun r => r.drop 4).length c8_3), (11, .int .i64 (i : Nat)), (13, .int .i64 (g1 + 1)), (14, .slice ai13_5 I13_5.length ci13_5), (16, .int .i64 (j : Nat))]) _
                          refine xc_seq ?_
                          refine xc_seq ?_
                          refine xc_region ?_
                          refine xl_pure rfl rfl rfl (pv_move (v := .int _ _) rfl rfl) ?_
                          refine xl_pure rfl rfl rfl (pv_move (v := .slice _ _ _) rfl rfl) ?_
                          refine xl_pure rfl rfl rfl (pv_len_l rfl rfl) ?_
                          refine xl_dec rfl rfl rfl (pv_lss rfl rfl rfl) (fun h18_3 => ?_) (fun h18_3 => ?_)
                          · skip
                            refine xl_nil ?_
                            refine xthen_normal ?_
                            refine xc_cond_t rfl ?_
                            refine xc_skip ?_
                            refine xthen_normal ?_
                            refine xc_seq ?_
                            refine xc_block ?_
                            refine xc_seq ?_
                            have hx : (gr I13_5 (j : Int).toNat).getD 0 0 = g1 + 1 + j := hids j (by omega)
                            refine xc_region ?_
                            refine xl_pure rfl rfl rfl (pv_move (v := .slice _ _ _) rfl rfl) ?_
                            refine xl_pure rfl rfl rfl (pv_move (v := .int _ _) rfl rfl) ?_
                            refine xl_pure rfl rfl rfl (pv_indexAddr_l rfl (sl_eq (hIe (by omega)).1) rfl (by omega)) ?_
                            refine xl_light rfl rfl rfl (lv_load (v := .int _ _) rfl rfl (by exact ld_num (j := 0) (hIe (by omega)).2 hIr.wide (by omega) (by decide))) ?_
                            refine xl_pure rfl rfl rfl (pv_move (v := .int _ _) rfl rfl) ?_
                            refine xl_pure rfl rfl rfl (pv_sub rfl rfl rfl (fit_i64 (by omega))) ?_
                            refine xl_pure rfl rfl rfl (pv_move (v := .int _ _) rfl rfl) ?_
                            refine xl_ndec rfl rfl rfl (pv_neq rfl rfl rfl) (fun h20_7 => ?_) (fun h20_7 => ?_)
                            · first
                              | (exfalso; omega)
                              |  (skip
                                  refine xl_nil ?_
                                  refine xthen_normal ?_
                                  refine xc_cond_f rfl ?_
                                  refine xc_skip ?_
                                  refine xblock_normal ?_
                                  refine xthen_normal ?_
                                  refine xc_region ?_
                                  refine xl_pure rfl rfl rfl (pv_move (v := .int _ _) rfl rfl) ?_
                                  refine xl_pure rfl rfl rfl (pv_add rfl rfl rfl (fit_i64 (by omega))) ?_
                                  refine xl_pure rfl rfl rfl (pv_assign (v := .int _ _) rfl rfl) ?_
                                  refine xl_nil ?_
                                  refine xthen_normal ?_
                                  exact ⟨j + 1, ⟨rfl, rfl, rfl, rfl, rfl, rfl, rfl, rfl, rfl, trivial⟩, ⟨by (try simp only); omega, mp, hR13_5, m8_1, hR0, hQ8_3, hX13_5, hX⟩, by (try simp only); omega⟩)
                            · first
                              | (exfalso; omega)
                              |  (skip
                                  refine xl_nil ?_
                                  refine xthen_normal ?_
                                  refine xc_cond_t rfl ?_
                                  refine xc_seq ?_
                                  refine xc_region ?_
                                  refine xl_pure rfl rfl rfl (pv_assign (v := .bool _) rfl rfl) ?_
                                  refine xl_nil ?_
                                  refine xthen_normal ?_
                                  refine xc_ret ?_
                                  refine xblock_ret ?_
                                  refine xthen_ret ?_
                                  refine xthen_ret ?_
                                  refine xblock_ret ?_
                                  refine xblock_ret ?_
                                  refine xthen_ret ?_
                                  refine xthen_ret ?_
                                  refine xblock_ret ?_
                                  refine xthen_ret ?_
                                  refine fin_ret (res1 (v := .bool _) rfl rfl) ?_
                                  exact ⟨rfl, hX⟩)
                          · skip
                            refine xl_nil ?_
                            refine xthen_normal ?_
                            refine xc_cond_f rfl ?_
                            refine xc_exit ?_
                            refine xthen_exit ?_
                            refine xthen_exit ?_
                            refine xblock_same ?_
                            refine xblock_normal ?_
                            refine xthen_normal ?_
                            refine xc_region ?_
                            refine xl_pure rfl rfl rfl (pv_move (v := .int _ _) rfl rfl) ?_
                            refine xl_pure rfl rfl rfl (pv_add rfl rfl rfl (fit_i64 (by omega))) ?_
                            refine xl_pure rfl rfl rfl (pv_assign (v := .int _ _) rfl rfl) ?_
                            refine xl_nil ?_
                            refine xthen_normal ?_
                            exact ⟨(i + 1, _, _, _, _), ⟨rfl, rfl, rfl, rfl, rfl, rfl, trivial⟩, ⟨by (try simp only); omega, mp, hR13_5, hc13_5, hna13_5, hd2, by (try simp only); omega, hd4, by (try simp only); omega, m8_1, hR0, hQ8_3, hX⟩, by (try simp only); omega⟩
                      · skip
                        refine xl_pure rfl rfl rfl (pv_pick_f (v := .bool _) rfl rfl rfl) ?_
                        refine xl_pure rfl rfl rfl (pv_pick_t (v := .bool _) rfl rfl rfl) ?_
                        refine xl_nil ?_
                        refine xthen_normal ?_
                        refine xc_cond_f rfl ?_
                        refine xc_skip ?_
                        refine xblock_normal ?_
                        refine xthen_normal ?_
                        refine xc_region ?_
                        refine xl_pure rfl rfl rfl (pv_move (v := .int _ _) rfl rfl) ?_
                        refine xl_pure rfl rfl rfl (pv_add rfl rfl rfl (fit_i64 (by omega))) ?_
                        refine xl_pure rfl rfl rfl (pv_assign (v := .int _ _) rfl rfl) ?_
                        refine xl_nil ?_
                        refine xthen_normal ?_
                        exact ⟨(i + 1, _, _, _, _), ⟨rfl, rfl, rfl, rfl, rfl, rfl, trivial⟩, ⟨by (try simp only); omega, mp, hR13_5, hc13_5, hna13_5, hd2, by (try simp only); omega, hd4, by (try simp only); omega, m8_1, hR0, hQ8_3, hX⟩, by (try simp only); omega⟩
                  · skip
                    refine xl_pure rfl rfl rfl (pv_move (v := .bool _) rfl rfl) ?_
                    refine xl_skip rfl rfl rfl ?_
                    refine xl_skip rfl rfl rfl ?_
                    refine xl_skip rfl rfl rfl ?_
                    refine xl_skip rfl rfl rfl ?_
                    refine xl_skip rfl rfl rfl ?_
                    refine xl_skip rfl rfl rfl ?_
                    refine xl_skip rfl rfl rfl ?_
                    refine xl_skip rfl rfl rfl ?_
                    refine xl_skip rfl rfl rfl ?_
                    refine xl_skip rfl rfl rfl ?_
                    refine xl_skip rfl rfl rfl ?_
                    refine xl_skip rfl rfl rfl ?_
                    refine xl_skip rfl rfl rfl ?_
                    refine xl_skip rfl rfl rfl ?_
                    refine xl_pure rfl rfl rfl (pv_pick_f (v := .bool _) rfl rfl rfl) ?_
                    refine xl_nil ?_
                    refine xthen_normal ?_
                    refine xc_cond_f rfl ?_
                    refine xc_skip ?_
                    refine xblock_normal ?_
                    refine xthen_normal ?_
                    refine xc_region ?_
                    refine xl_pure rfl rfl rfl (pv_move (v := .int _ _) rfl rfl) ?_
                    refine xl_pure rfl rfl rfl (pv_add rfl rfl rfl (fit_i64 (by omega))) ?_
                    refine xl_pure rfl rfl rfl (pv_assign (v := .int _ _) rfl rfl) ?_
                    refine xl_nil ?_
                    refine xthen_normal ?_
                    exact ⟨(i + 1, _, _, _, _), ⟨rfl, rfl, rfl, rfl, rfl, rfl, trivial⟩, ⟨by (try simp only); omega, mp, hR13_5, hc13_5, hna13_5, hd2, by (try simp only); omega, hd4, by (try simp only); omega, m8_1, hR0, hQ8_3, hX⟩, by (try simp only); omega⟩
              · skip
                refine xl_pure rfl rfl rfl (pv_move (v := .bool _) rfl rfl) ?_
                refine xl_pure rfl rfl rfl (pv_move (v := .pointer _) rfl rfl) ?_
                refine xl_heavy rfl rfl rfl (hv_call (g := 14) rfl rfl (c14 mp hR13_5 hc13_5 hna13_5 hl26 hd2) rfl) ?_
                rintro v14_4 H14_4 ⟨a14_4, c14_4, rfl, hQ14_4, hE14_4⟩
                have mp := mp.ext hE14_4
                have hR := hR.ext hE14_4
                have m8_1 := m8_1.ext hE14_4
                have hR0 := hR0.ext hE14_4
                have hQ8_3 := hQ8_3.ext hE14_4
                have hQ12_1 := hQ12_1.ext hE14_4
                have hR13_5 := hR13_5.ext hE14_4
                have hX := hX.trans hE14_4
                have hX13_5 := hX13_5.trans hE14_4
                refine xl_pure rfl rfl rfl (pv_move (v := .slice _ _ _) rfl rfl) ?_
                refine xl_heavy rfl rfl rfl (hv_call (g := 17) rfl rfl (c17 (L13_5.map fun r => r.drop 4) (l1.map fun r => r.drop 4) _ _ _ _ hQ14_4.rows hQ12_1.rows (by rw [List.length_map]; omega)) rfl) ?_
                rintro v14_6 H14_6 ⟨r14_6, rfl, hb14_6, rfl⟩
                obtain rfl : r14_6 = true := hb14_6.2 (by rw [(hd1 h14_1).1])
                refine xl_pure rfl rfl rfl (pv_not rfl rfl) ?_
                refine xl_pure rfl rfl rfl (pv_move (v := .bool _) rfl rfl) ?_
                refine xl_pure rfl rfl rfl (pv_move (v := .pointer _) rfl rfl) ?_
                refine xl_heavy rfl rfl rfl (hv_call (g := 15) rfl rfl (c15 mp (by omega) hd4) rfl) ?_
                rintro v14_10 H14_10 ⟨rfl, rfl⟩
                refine xl_pure rfl rfl rfl (pv_move (v := .int _ _) rfl rfl) ?_
                refine xl_ndec rfl rfl rfl (pv_neq rfl rfl rfl) (fun h14_12 => ?_) (fun h14_12 => ?_)
                · skip
                  refine xl_pure rfl rfl rfl (pv_pick_f (v := .bool _) rfl rfl rfl) ?_
                  refine xl_pure rfl rfl rfl (pv_pick_t (v := .bool _) rfl rfl rfl) ?_
                  refine xl_pure rfl rfl rfl (pv_move (v := .bool _) rfl rfl) ?_
                  refine xl_pure rfl rfl rfl (pv_move (v := .pointer _) rfl rfl) ?_
                  refine xl_heavy rfl rfl rfl (hv_call (g := 15) rfl rfl (c15 mp (by omega) hd4) rfl) ?_
                  rintro v14_17 H14_17 ⟨rfl, rfl⟩
                  refine xl_pure rfl rfl rfl (pv_move (v := .int _ _) rfl rfl) ?_
                  refine xl_dec rfl rfl rfl (pv_lss rfl rfl rfl) (fun h14_19 => ?_) (fun h14_19 => ?_)
                  · exact absurd h14_19 (by omega)
                  · skip
                    refine xl_pure rfl rfl rfl (pv_pick_f (v := .bool _) rfl rfl rfl) ?_
                    refine xl_nil ?_
                    refine xthen_normal ?_
                    refine xc_cond_f rfl ?_
                    refine xc_skip ?_
                    refine xthen_normal ?_
                    refine xc_seq ?_
                    obtain ⟨bA, ofA, hAe⟩ := (hA.ext hX).at'
                    refine xc_region ?_
                    refine xl_pure rfl rfl rfl (pv_move (v := .int _ _) rfl rfl) ?_
                    refine xl_dec rfl rfl rfl (pv_eql rfl rfl rfl) (fun h16_1 => ?_) (fun h16_1 => ?_)
                    · skip
                      refine xl_pure rfl rfl rfl (pv_move (v := .bool _) rfl rfl) ?_
                      refine xl_pure rfl rfl rfl (pv_move (v := .slice _ _ _) rfl rfl) ?_
                      refine xl_pure rfl rfl rfl (pv_move (v := .int _ _) rfl rfl) ?_
                      refine xl_pure rfl rfl rfl (pv_indexAddr_l rfl (sl_eq (hAe (by omega)).1) rfl (by omega)) ?_
                      refine xl_pure rfl rfl rfl (pv_fieldAddr rfl rfl) ?_
                      refine xl_light rfl rfl rfl (lv_load (v := .int _ _) rfl rfl (by exact ld_num (j := 0) (hAe (by omega)).2 hA.1 (by omega) (by decide))) ?_
                      refine xl_dec rfl rfl rfl (pv_eql rfl rfl rfl) (fun h16_8 => ?_) (fun h16_8 => ?_)
                      · skip
                        refine xl_pure rfl rfl rfl (pv_move (v := .bool _) rfl rfl) ?_
                        refine xl_skip rfl rfl rfl ?_
                        refine xl_skip rfl rfl rfl ?_
                        refine xl_skip rfl rfl rfl ?_
                        refine xl_skip rfl rfl rfl ?_
                        refine xl_skip rfl rfl rfl ?_
                        refine xl_skip rfl rfl rfl ?_
                        refine xl_pure rfl rfl rfl (pv_pick_t (v := .bool _) rfl rfl rfl) ?_
                        refine xl_pure rfl rfl rfl (pv_pick_t (v := .bool _) rfl rfl rfl) ?_
                        refine xl_nil ?_
                        refine xthen_normal ?_
                        refine xc_cond_t rfl ?_
                        refine xc_seq ?_
                        have hk : (gr A i).getD 0 0 = 1 ∨ (gr A i).getD 0 0 = 5 := by first | exact .inl h16_8 | exact .inr h16_15
                        have hids := hd6 h16_1 hk
                        refine xc_region ?_
                        refine xl_pure rfl rfl rfl (pv_assign (v := .int _ _) rfl rfl) ?_
                        refine xl_nil ?_
                        refine xthen_normal ?_
                        refine xc_block ?_
                        refine xc_loop (τ := Nat) (fun t => [(1, .int .i64 w), (2, .slice aA A.length cA), (7, .pointer (some ⟨bp, 0, none⟩)), (9, .pointer (some ⟨b8_1, 0, none⟩)), (10, .slice a8_3 (l.map fun r => r.drop 4).length c8_3), (11, .int .i64 (i : Nat)), (13, .int .i64 (g1 + 1)), (14, .slice ai13_5 I13_5.length ci13_5), (16, .int .i64 (t : Nat))]) (fun t H' => (t ≤ I13_5.length) ∧ (Blk H' bp [.slice a13_5 (L13_5).length c13_5, .int .i64 g13_5] 29) ∧ (RowsT H' 75 13 a13_5 L13_5) ∧ (Blk H' b8_1 [.slice a (l).length c, .int .i64 (w - 1)] 29) ∧ (RowsT H' 75 13 a l) ∧ (RowsT H' 23 9 a8_3 (l.map fun r => r.drop 4)) ∧ (Ext H13_5 H') ∧ (Ext H H')) (fun t H' => I13_5.length - t) 0 ?_ ?_ ?_
                        · exact ⟨rfl, rfl, rfl, rfl, rfl, rfl, rfl, rfl, rfl, trivial⟩
                        · skip
                          exact ⟨Nat.zero_le _, mp, hR13_5, m8_1, hR0, hQ8_3, hX13_5, hX⟩
                        · intro σ
                          clear hX mp hR m8_1 hR0 hQ8_3 hQ12_1 hR13_5 hQ14_4 hX13_5
                          rintro j Hl18 ⟨hj, mp, hR13_5, m8_1, hR0, hQ8_3, hX13_5, hX⟩
                          replace hj : j ≤ I13_5.length := hj
                          replace mp : Blk Hl18 bp [.slice a13_5 (L13_5).length c13_5, .int .i64 g13_5] 29 := mp
                          replace hR13_5 : RowsT Hl18 75 13 a13_5 L13_5 := hR13_5
                          replace m8_1 : Blk Hl18 b8_1 [.slice a (l).length c, .int .i64 (w - 1)] 29 := m8_1
                          replace hR0 : RowsT Hl18 75 13 a l := hR0
                          replace hQ8_3 : RowsT Hl18 23 9 a8_3 (l.map fun r => r.drop 4) := hQ8_3
                          replace hX13_5 : Ext H13_5 Hl18 := hX13_5
                          replace hX : Ext H Hl18 := hX
                          have hIr := (hI13_5 hk).ext hX13_5
                          obtain ⟨bI, ofI, hIe⟩ := hIr.at
                          show XC _ _ _ (upds σ [(1, .int .i64 w), (2, .slice aA A.length cA), (7, .pointer (some ⟨bp, 0, none⟩)), (9, .pointer (some ⟨b8_1, 0, none⟩)), (10, .slice a8_3 (l.map fun r => r.drop 4).length c8_3), (11, .int .i64 (i : Nat)), (13, .int .i64 (g1 + 1)), (14, .slice ai13_5 I13_5.length ci13_5), (16, .int .i64 (j : Nat))]) _
                          refine xc_seq ?_
                          refine xc_seq ?_
                          refine xc_region ?_
                          refine xl_pure rfl rfl rfl (pv_move (v := .int _ _) rfl rfl) ?_
                          refine xl_pure rfl rfl rfl (pv_move (v := .slice _ _ _) rfl rfl) ?_
                          refine xl_pure rfl rfl rfl (pv_len_l rfl rfl) ?_
                          refine xl_dec rfl rfl rfl (pv_lss rfl rfl rfl) (fun h18_3 => ?_) (fun h18_3 => ?_)
                          · skip
                            refine xl_nil ?_
                            refine xthen_normal ?_
                            refine xc_cond_t rfl ?_
                            refine xc_skip ?_
                            refine xthen_normal ?_
                            refine xc_seq ?_
                            refine xc_block ?_
                            refine xc_seq ?_
                            have hx : (gr I13_5 (j : Int).toNat).getD 0 0 = g1 + 1 + j := hids j (by omega)
                            refine xc_region ?_
                            refine xl_pure rfl rfl rfl (pv_move (v := .slice _ _ _) rfl rfl) ?_
                            refine xl_pure rfl rfl rfl (pv_move (v := .int _ _) rfl rfl) ?_
                            refine xl_pure rfl rfl rfl (pv_indexAddr_l rfl (sl_eq (hIe (by omega)).1) rfl (by omega)) ?_
                            refine xl_light rfl rfl rfl (lv_load (v := .int _ _) rfl rfl (by exact ld_num (j := 0) (hIe (by omega)).2 hIr.wide (by omega) (by decide))) ?_
                            refine xl_pure rfl rfl rfl (pv_move (v := .int _ _) rfl rfl) ?_
                            refine xl_pure rfl rfl rfl (pv_sub rfl rfl rfl (fit_i64 (by omega))) ?_
                            refine xl_pure rfl rfl rfl (pv_move (v := .int _ _) rfl rfl) ?_
                            refine xl_ndec rfl rfl rfl (pv_neq rfl rfl rfl) (fun h20_7 => ?_) (fun h20_7 => ?_)
                            · first
                              | (exfalso; omega)
                              |  (skip
                                  refine xl_nil ?_
                                  refine xthen_normal ?_
                                  refine xc_cond_f rfl ?_
                                  refine xc_skip ?_
                                  refine xblock_normal ?_
                                  refine xthen_normal ?_
                                  refine xc_region ?_
                                  refine xl_pure rfl rfl rfl (pv_move (v := .int _ _) rfl rfl) ?_
                                  refine xl_pure rfl rfl rfl (pv_add rfl rfl rfl (fit_i64 (by omega))) ?_
                                  refine xl_pure rfl rfl rfl (pv_assign (v := .int _ _) rfl rfl) ?_
                                  refine xl_nil ?_
                                  refine xthen_normal ?_
                                  exact ⟨j + 1, ⟨rfl, rfl, rfl, rfl, rfl, rfl, rfl, rfl, rfl, trivial⟩, ⟨by (try simp only); omega, mp, hR13_5, m8_1, hR0, hQ8_3, hX13_5, hX⟩, by (try simp only); omega⟩)
                            · first
                              | (exfalso; omega)
                              |  (skip
                                  refine xl_nil ?_
                                  refine xthen_normal ?_
                                  refine xc_cond_t rfl ?_
                                  refine xc_seq ?_
                                  refine xc_region ?_
                                  refine xl_pure rfl rfl rfl (pv_assign (v := .bool _) rfl rfl) ?_
                                  refine xl_nil ?_
                                  refine xthen_normal ?_
                                  refine xc_ret ?_
                                  refine xblock_ret ?_
                                  refine xthen_ret ?_
                                  refine xthen_ret ?_
                                  refine xblock_ret ?_
                                  refine xblock_ret ?_
                                  refine xthen_ret ?_
                                  refine xthen_ret ?_
                                  refine xblock_ret ?_
                                  refine xthen_ret ?_
                                  refine fin_ret (res1 (v := .bool _) rfl rfl) ?_
                                  exact ⟨rfl, hX⟩)
                          · skip
                            refine xl_nil ?_
                            refine xthen_normal ?_
                            refine xc_cond_f rfl ?_
                            refine xc_exit ?_
                            refine xthen_exit ?_
                            refine xthen_exit ?_
                            refine xblock_same ?_
                            refine xblock_normal ?_
                            refine xthen_normal ?_
                            refine xc_region ?_
                            refine xl_pure rfl rfl rfl (pv_move (v := .int _ _) rfl rfl) ?_
                            refine xl_pure rfl rfl rfl (pv_add rfl rfl rfl (fit_i64 (by omega))) ?_
                            refine xl_pure rfl rfl rfl (pv_assign (v := .int _ _) rfl rfl) ?_
                            refine xl_nil ?_
                            refine xthen_normal ?_
                            exact ⟨(i + 1, _, _, _, _), ⟨rfl, rfl, rfl, rfl, rfl, rfl, trivial⟩, ⟨by (try simp only); omega, mp, hR13_5, hc13_5, hna13_5, hd2, by (try simp only); omega, hd4, by (try simp only); omega, m8_1, hR0, hQ8_3, hX⟩, by (try simp only); omega⟩
                      · skip
                        refine xl_pure rfl rfl rfl (pv_move (v := .bool _) rfl rfl) ?_
                        refine xl_pure rfl rfl rfl (pv_move (v := .slice _ _ _) rfl rfl) ?_
                        refine xl_pure rfl rfl rfl (pv_move (v := .int _ _) rfl rfl) ?_
                        refine xl_pure rfl rfl rfl (pv_indexAddr_l rfl (sl_eq (hAe (by omega)).1) rfl (by omega)) ?_
                        refine xl_pure rfl rfl rfl (pv_fieldAddr rfl rfl) ?_
                        refine xl_light rfl rfl rfl (lv_load (v := .int _ _) rfl rfl (by exact ld_num (j := 0) (hAe (by omega)).2 hA.1 (by omega) (by decide))) ?_
                        refine xl_dec rfl rfl rfl (pv_eql rfl rfl rfl) (fun h16_15 => ?_) (fun h16_15 => ?_)
                        · skip
                          refine xl_pure rfl rfl rfl (pv_pick_f (v := .bool _) rfl rfl rfl) ?_
                          refine xl_pure rfl rfl rfl (pv_pick_t (v := .bool _) rfl rfl rfl) ?_
                          refine xl_nil ?_
                          refine xthen_normal ?_
                          refine xc_cond_t rfl ?_
                          refine xc_seq ?_
                          have hk : (gr A i).getD 0 0 = 1 ∨ (gr A i).getD 0 0 = 5 := by first | exact .inl h16_8 | exact .inr h16_15
                          have hids := hd6 h16_1 hk
                          refine xc_region ?_
                          refine xl_pure rfl rfl rfl (pv_assign (v := .int _ _) rfl rfl) ?_
                          refine xl_nil ?_
                          refine xthen_normal ?_
                          refine xc_block ?_
                          refine xc_loop (τ := Nat) (fun t => [(1, .int .i64 w), (2, .slice aA A.length cA), (7, .pointer (some ⟨bp, 0, none⟩)), (9, .pointer (some ⟨b8_1, 0, none⟩)), (10, .slice a8_3 (l.map fun r => r.drop 4).length c8_3), (11, .int .i64 (i : Nat)), (13, .int .i64 (g1 + 1)), (14, .slice ai13_5 I13_5.length ci13_5), (16, .int .i64 (t : Nat))]) (fun t H' => (t ≤ I13_5.length) ∧ (Blk H' bp [.slice a13_5 (L13_5).length c13_5, .int .i64 g13_5] 29) ∧ (RowsT H' 75 13 a13_5 L13_5) ∧ (Blk H' b8_1 [.slice a (l).length c, .int .i64 (w - 1)] 29) ∧ (RowsT H' 75 13 a l) ∧ (RowsT H' 23 9 a8_3 (l.map fun r => r.drop 4)) ∧ (Ext H13_5 H') ∧ (Ext H H')) (fun t H' => I13_5.length - t) 0 ?_ ?_ ?_
                          · exact ⟨rfl, rfl, rfl, rfl, rfl, rfl, rfl, rfl, rfl, trivial⟩
                          · skip
                            exact ⟨Nat.zero_le _, mp, hR13_5, m8_1, hR0, hQ8_3, hX13_5, hX⟩
                          · intro σ
                            clear hX mp hR m8_1 hR0 hQ8_3 hQ12_1 hR13_5 hQ14_4 hX13_5
                            rintro j Hl18 ⟨hj, mp, hR13_5, m8_1, hR0, hQ8_3, hX13_5, hX⟩
                            replace hj : j ≤ I13_5.length := hj
                            replace mp : Blk Hl18 bp [.slice a13_5 (L13_5).length c13_5, .int .i64 g13_5] 29 := mp
                            replace hR13_5 : RowsT Hl18 75 13 a13_5 L13_5 := hR13_5
                            replace m8_1 : Blk Hl18 b8_1 [.slice a (l).length c, .int .i64 (w - 1)] 29 := m8_1
                            replace hR0 : RowsT Hl18 75 13 a l := hR0
                            replace hQ8_3 : RowsT Hl18 23 9 a8_3 (l.map fun r => r.drop 4) := hQ8_3
                            replace hX13_5 : Ext H13_5 Hl18 := hX13_5
                            replace hX : Ext H Hl18 := hX
                            have hIr := (hI13_5 hk).ext hX13_5
                            obtain ⟨bI, ofI, hIe⟩ := hIr.at
                            show XC _ _ _ (upds σ [(1, .int .i64 w), (2, .slice aA A.length cA), (7, .pointer (some ⟨bp, 0, none⟩)), (9, .pointer (some ⟨b8_1, 0, none⟩)), (10, .slice a8_3 (l.map fun r => r.drop 4).length c8_3), (11, .int .i64 (i : Nat)), (13, .int .i64 (g1 + 1)), (14, .slice ai13_5 I13_5.length ci13_5), (16, .int .i64 (j : Nat))]) _
                            refine xc_seq ?_
                            refine xc_seq ?_
                            refine xc_region ?_
                            refine xl_pure rfl rfl rfl (pv_move (v := .int _ _) rfl rfl) ?_
                            refine xl_pure rfl rfl rfl (pv_move (v := .slice _ _ _) rfl rfl) ?_
                            refine xl_pure rfl rfl rfl (pv_len_l rfl rfl) ?_
                            refine xl_dec rfl rfl rfl (pv_lss rfl rfl rfl) (fun h18_3 => ?_) (fun h18_3 => ?_)
                            · skip
                              refine xl_nil ?_
                              refine xthen_normal ?_
                              refine xc_cond_t rfl ?_
                              refine xc_skip ?_
                              refine xthen_normal ?_
                              refine xc_seq ?_
                              refine xc_block ?_
                              refine xc_seq ?_
                              have hx : (gr I13_5 (j : Int).toNat).getD 0 0 = g1 + 1 + j := hids j (by omega)
                              refine xc_region ?_
                              refine xl_pure rfl rfl rfl (pv_move (v := .slice _ _ _) rfl rfl) ?_
                              refine xl_pure rfl rfl rfl (pv_move (v := .int _ _) rfl rfl) ?_
                              refine xl_pure rfl rfl rfl (pv_indexAddr_l rfl (sl_eq (hIe (by omega)).1) rfl (by omega)) ?_
                              refine xl_light rfl rfl rfl (lv_load (v := .int _ _) rfl rfl (by exact ld_num (j := 0) (hIe (by omega)).2 hIr.wide (by omega) (by decide))) ?_
                              refine xl_pure rfl rfl rfl (pv_move (v := .int _ _) rfl rfl) ?_
                              refine xl_pure rfl rfl rfl (pv_sub rfl rfl rfl (fit_i64 (by omega))) ?_
                              refine xl_pure rfl rfl rfl (pv_move (v := .int _ _) rfl rfl) ?_
                              refine xl_ndec rfl rfl rfl (pv_neq rfl rfl rfl) (fun h20_7 => ?_) (fun h20_7 => ?_)
                              · first
                                | (exfalso; omega)
                                |  (skip
                                    refine xl_nil ?_
                                    refine xthen_normal ?_
                                    refine xc_cond_f rfl ?_
                                    refine xc_skip ?_
                                    refine xblock_normal ?_
                                    refine xthen_normal ?_
                                    refine xc_region ?_
                                    refine xl_pure rfl rfl rfl (pv_move (v := .int _ _) rfl rfl) ?_
                                    refine xl_pure rfl rfl rfl (pv_add rfl rfl rfl (fit_i64 (by omega))) ?_
                                    refine xl_pure rfl rfl rfl (pv_assign (v := .int _ _) rfl rfl) ?_
                                    refine xl_nil ?_
                                    refine xthen_normal ?_
                                    exact ⟨j + 1, ⟨rfl, rfl, rfl, rfl, rfl, rfl, rfl, rfl, rfl, trivial⟩, ⟨by (try simp only); omega, mp, hR13_5, m8_1, hR0, hQ8_3, hX13_5, hX⟩, by (try simp only); omega⟩)
                              · first
                                | (exfalso; omega)
                                |  (skip
                                    refine xl_nil ?_
                                    refine xthen_normal ?_
                                    refine xc_cond_t rfl ?_
                                    refine xc_seq ?_
                                    refine xc_region ?_
                                    refine xl_pure rfl rfl rfl (pv_assign (v := .bool _) rfl rfl) ?_
                                    refine xl_nil ?_
                                    refine xthen_normal ?_
                                    refine xc_ret ?_
                                    refine xblock_ret ?_
                                    refine xthen_ret ?_
                                    refine xthen_ret ?_
                                    refine xblock_ret ?_
                                    refine xblock_ret ?_
                                    refine xthen_ret ?_
                                    refine xthen_ret ?_
                                    refine xblock_ret ?_
                                    refine xthen_ret ?_
                                    refine fin_ret (res1 (v := .bool _) rfl rfl) ?_
                                    exact ⟨rfl, hX⟩)
                            · skip
                              refine xl_nil ?_
                              refine xthen_normal ?_
                              refine xc_cond_f rfl ?_
                              refine xc_exit ?_
                              refine xthen_exit ?_
                              refine xthen_exit ?_
                              refine xblock_same ?_
                              refine xblock_normal ?_
                              refine xthen_normal ?_
                              refine xc_region ?_
                              refine xl_pure rfl rfl rfl (pv_move (v := .int _ _) rfl rfl) ?_
                              refine xl_pure rfl rfl rfl (pv_add rfl rfl rfl (fit_i64 (by omega))) ?_
                              refine xl_pure rfl rfl rfl (pv_assign (v := .int _ _) rfl rfl) ?_
                              refine xl_nil ?_
                              refine xthen_normal ?_
                              exact ⟨(i + 1, _, _, _, _), ⟨rfl, rfl, rfl, rfl, rfl, rfl, trivial⟩, ⟨by (try simp only); omega, mp, hR13_5, hc13_5, hna13_5, hd2, by (try simp only); omega, hd4, by (try simp only); omega, m8_1, hR0, hQ8_3, hX⟩, by (try simp only); omega⟩
                        · skip
                          refine xl_pure rfl rfl rfl (pv_pick_f (v := .bool _) rfl rfl rfl) ?_
                          refine xl_pure rfl rfl rfl (pv_pick_t (v := .bool _) rfl rfl rfl) ?_
                          refine xl_nil ?_
                          refine xthen_normal ?_
                          refine xc_cond_f rfl ?_
                          refine xc_skip ?_
                          refine xblock_normal ?_
                          refine xthen_normal ?_
                          refine xc_region ?_
                          refine xl_pure rfl rfl rfl (pv_move (v := .int _ _) rfl rfl) ?_
                          refine xl_pure rfl rfl rfl (pv_add rfl rfl rfl (fit_i64 (by omega))) ?_
                          refine xl_pure rfl rfl rfl (pv_assign (v := .int _ _) rfl rfl) ?_
                          refine xl_nil ?_
                          refine xthen_normal ?_
                          exact ⟨(i + 1, _, _, _, _), ⟨rfl, rfl, rfl, rfl, rfl, rfl, trivial⟩, ⟨by (try simp only); omega, mp, hR13_5, hc13_5, hna13_5, hd2, by (try simp only); omega, hd4, by (try simp only); omega, m8_1, hR0, hQ8_3, hX⟩, by (try simp only); omega⟩
                    · skip
                      refine xl_pure rfl rfl rfl (pv_move (v := .bool _) rfl rfl) ?_
                      refine xl_skip rfl rfl rfl ?_
                      refine xl_skip rfl rfl rfl ?_
                      refine xl_skip rfl rfl rfl ?_
                      refine xl_skip rfl rfl rfl ?_
                      refine xl_skip rfl rfl rfl ?_
                      refine xl_skip rfl rfl rfl ?_
                      refine xl_skip rfl rfl rfl ?_
                      refine xl_skip rfl rfl rfl ?_
                      refine xl_skip rfl rfl rfl ?_
                      refine xl_skip rfl rfl rfl ?_
                      refine xl_skip rfl rfl rfl ?_
                      refine xl_skip rfl rfl rfl ?_
                      refine xl_skip rfl rfl rfl ?_
                      refine xl_skip rfl rfl rfl ?_
                      refine xl_pure rfl rfl rfl (pv_pick_f (v := .bool _) rfl rfl rfl) ?_
                      refine xl_nil ?_
                      refine xthen_normal ?_
                      refine xc_cond_f rfl ?_
                      refine xc_skip ?_
                      refine xblock_normal ?_
                      refine xthen_normal ?_
                      refine xc_region ?_
                      refine xl_pure rfl rfl rfl (pv_move (v := .int _ _) rfl rfl) ?_
                      refine xl_pure rfl rfl rfl (pv_add rfl rfl rfl (fit_i64 (by omega))) ?_
                      refine xl_pure rfl rfl rfl (pv_assign (v := .int _ _) rfl rfl) ?_
                      refine xl_nil ?_
                      refine xthen_normal ?_
                      exact ⟨(i + 1, _, _, _, _), ⟨rfl, rfl, rfl, rfl, rfl, rfl, trivial⟩, ⟨by (try simp only); omega, mp, hR13_5, hc13_5, hna13_5, hd2, by (try simp only); omega, hd4, by (try simp only); omega, m8_1, hR0, hQ8_3, hX⟩, by (try simp only); omega⟩
                · exact absurd (by rw [(hd1 h14_1).2]) h14_12
            · skip
              refine xl_nil ?_
              refine xthen_normal ?_
              refine xc_cond_f rfl ?_
              refine xc_exit ?_
              refine xthen_exit ?_
              refine xthen_exit ?_
              refine xblock_same ?_
              refine xthen_normal ?_
              refine xc_seq ?_
              refine xc_region ?_
              refine xl_pure rfl rfl rfl (pv_move (v := .pointer _) rfl rfl) ?_
              refine xl_pure rfl rfl rfl (pv_neq_pn rfl rfl rfl) ?_
              refine xl_pure rfl rfl rfl (pv_move (v := .bool _) rfl rfl) ?_
              refine xl_pure rfl rfl rfl (pv_move (v := .pointer _) rfl rfl) ?_
              refine xl_heavy rfl rfl rfl (hv_call (g := 14) rfl rfl (c14 (bp := b8_1) m8_1 hR0 hc hna hl6 hg) rfl) ?_
              rintro v22_4 H22_4 ⟨a22_4, c22_4, rfl, hQ22_4, hE22_4⟩
              have mp := mp.ext hE22_4
              have hR := hR.ext hE22_4
              have m8_1 := m8_1.ext hE22_4
              have hR0 := hR0.ext hE22_4
              have hQ8_3 := hQ8_3.ext hE22_4
              have hX := hX.trans hE22_4
              refine xl_pure rfl rfl rfl (pv_move (v := .slice _ _ _) rfl rfl) ?_
              refine xl_heavy rfl rfl rfl (hv_call (g := 17) rfl rfl (c17 (l.map fun r => r.drop 4) (l.map fun r => r.drop 4) _ _ _ _ hQ22_4.rows hQ8_3.rows (by rw [List.length_map]; omega)) rfl) ?_
              rintro v22_6 H22_6 ⟨r22_6, rfl, hb22_6, rfl⟩
              obtain rfl : r22_6 = true := hb22_6.2 (rfl)
              refine xl_pure rfl rfl rfl (pv_pick_t (v := .bool _) rfl rfl rfl) ?_
              refine xl_pure rfl rfl rfl (pv_move (v := .bool _) rfl rfl) ?_
              refine xl_pure rfl rfl rfl (pv_move (v := .pointer _) rfl rfl) ?_
              refine xl_heavy rfl rfl rfl (hv_call (g := 15) rfl rfl (c15 m8_1 (by omega) (by omega)) rfl) ?_
              rintro v22_10 H22_10 ⟨rfl, rfl⟩
              refine xl_pure rfl rfl rfl (pv_move (v := .int _ _) rfl rfl) ?_
              refine xl_dec rfl rfl rfl (pv_eql rfl rfl rfl) (fun h22_12 => ?_) (fun h22_12 => ?_)
              · skip
                refine xl_pure rfl rfl rfl (pv_pick_t (v := .bool _) rfl rfl rfl) ?_
                refine xl_pure rfl rfl rfl (pv_move (v := .bool _) rfl rfl) ?_
                refine xl_heavy rfl rfl rfl (hv_call (g := 7) rfl rfl (c7) rfl) ?_
                rintro v22_15 H22_15 ⟨rfl, hE22_15⟩
                have mp := mp.ext hE22_15
                have hR := hR.ext hE22_15
                have m8_1 := m8_1.ext hE22_15
                have hR0 := hR0.ext hE22_15
                have hQ8_3 := hQ8_3.ext hE22_15
                have hQ22_4 := hQ22_4.ext hE22_15
                have hX := hX.trans hE22_15
                refine xl_pure rfl rfl rfl (pv_pick_t (v := .bool _) rfl rfl rfl) ?_
                refine xl_pure rfl rfl rfl (pv_assign (v := .bool _) rfl rfl) ?_
                refine xl_nil ?_
                refine xthen_normal ?_
                refine xc_ret ?_
                refine fin_ret (res1 (v := .bool _) rfl rfl) ?_
                exact ⟨rfl, hX⟩
              · exact absurd (by omega) h22_12
        · exact absurd rfl h4_1
      · skip
        refine xl_pure rfl rfl rfl (pv_move (v := .tuple _) rfl rfl) ?_
        refine xl_pure rfl rfl rfl (pv_extract (v := .pointer _) rfl rfl rfl) ?_
        refine xl_pure rfl rfl rfl (pv_extract (v := .int _ _) rfl rfl rfl) ?_
        refine xl_pure rfl rfl rfl (pv_assign (v := .pointer _) rfl rfl) ?_
        refine xl_pure rfl rfl rfl (pv_assign (v := .int _ _) rfl rfl) ?_
        refine xl_nil ?_
        refine xthen_normal ?_
        refine xc_seq ?_
        refine xc_seq ?_
        refine xc_region ?_
        refine xl_pure rfl rfl rfl (pv_move (v := .int _ _) rfl rfl) ?_
        refine xl_ndec rfl rfl rfl (pv_neq rfl rfl rfl) (fun h4_1 => ?_) (fun h4_1 => ?_)
        · exact absurd h4_1 hne
        · skip
          refine xl_nil ?_
          refine xthen_normal ?_
          refine xc_cond_t rfl ?_
          refine xc_seq ?_
          refine xc_region ?_
          refine xl_pure rfl rfl rfl (pv_move (v := .pointer _) rfl rfl) ?_
          refine xl_pure rfl rfl rfl (pv_eql_nn rfl rfl rfl) ?_
          refine xl_pure rfl rfl rfl (pv_move (v := .bool _) rfl rfl) ?_
          refine xl_heavy rfl rfl rfl (hv_call (g := 7) rfl rfl (c7) rfl) ?_
          rintro v5_3 H5_3 ⟨rfl, hE5_3⟩
          have hX := hX.trans hE5_3
          refine xl_pure rfl rfl rfl (pv_pick_t (v := .bool _) rfl rfl rfl) ?_
          refine xl_pure rfl rfl rfl (pv_assign (v := .bool _) rfl rfl) ?_
          refine xl_nil ?_
          refine xthen_normal ?_
          refine xc_ret ?_
          refine xthen_ret ?_
          refine fin_ret (res1 (v := .bool _) rfl rfl) ?_
          exact ⟨rfl, hX⟩
end Go.XG
