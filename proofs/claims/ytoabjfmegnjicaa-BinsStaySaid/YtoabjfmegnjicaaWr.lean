/-
  Walks of the seat's functions over the logic XG: each function, what it computes. Printed by a program out of wip/walks.py.
-/
import Derived.Test.YtoabjfmegnjicaaI
import Derived.Test.YtoabjfmegnjicaaTo
import Derived.Test.YtoabjfmegnjicaaTa
import Derived.Test.YtoabjfmegnjicaaTb
import Derived.Test.YtoabjfmegnjicaaTc
import Derived.Test.YtoabjfmegnjicaaTd
import Derived.Test.YtoabjfmegnjicaaQ
import Derived.Test.YtoabjfmegnjicaaWa
import Derived.Test.YtoabjfmegnjicaaWb
import Derived.Test.YtoabjfmegnjicaaWc
import Derived.Test.YtoabjfmegnjicaaWd
import Derived.Test.YtoabjfmegnjicaaWe
import Derived.Test.YtoabjfmegnjicaaB
import Derived.Test.YtoabjfmegnjicaaWf
import Derived.Test.YtoabjfmegnjicaaD
import Derived.Test.YtoabjfmegnjicaaWg
import Derived.Test.YtoabjfmegnjicaaWh
import Derived.Test.YtoabjfmegnjicaaWi
import Derived.Test.YtoabjfmegnjicaaE
import Derived.Test.YtoabjfmegnjicaaWj
import Derived.Test.YtoabjfmegnjicaaWk
import Derived.Test.YtoabjfmegnjicaaWl
import Derived.Test.YtoabjfmegnjicaaWm
import Derived.Test.YtoabjfmegnjicaaWn
import Derived.Test.YtoabjfmegnjicaaWo
import Derived.Test.YtoabjfmegnjicaaWp
import Derived.Test.YtoabjfmegnjicaaWq
namespace Go.XG
open Go.Proofs
set_option maxRecDepth 4000
set_option maxHeartbeats 4000000
theorem c6 {O : Outer} {H : Heap} {al : Option Addr} {cl : Nat} {L : List (List Int)} (hL : Rows H al 5 L) {aA : Option Addr} {cA : Nat} {A : List BAct} (hA : Acts H aA A) (hAI : ∀ i, i < A.length → (gA A i).n < 9223372036854775808) :
    FnC Try.prog 6 #[.slice al L.length cl, .slice aA A.length cA] O H (fun v H' => v = .bool true ∧ Ext H H') := by
  refine fn_enter (A := [.slice al L.length cl, .slice aA A.length cA]) Try.func6 rfl rfl ?_
  have hX := Ext.refl H
  refine xc_seq ?_
  refine xc_region ?_
  refine xl_pure rfl rfl rfl (pv_assign (v := .bool _) rfl rfl) ?_
  refine xl_nil ?_
  refine xthen_normal ?_
  refine xc_seq ?_
  refine xc_seq ?_
  refine xc_region ?_
  refine xl_pure rfl rfl rfl (pv_move (v := .slice _ _ _) rfl rfl) ?_
  refine xl_pure rfl rfl rfl (pv_len_l rfl rfl) ?_
  refine xl_dec rfl rfl rfl (pv_gtr rfl rfl rfl) (fun h1_2 => ?_) (fun h1_2 => ?_)
  · skip
    refine xl_pure rfl rfl rfl (pv_move (v := .bool _) rfl rfl) ?_
    refine xl_skip rfl rfl rfl ?_
    refine xl_skip rfl rfl rfl ?_
    refine xl_skip rfl rfl rfl ?_
    refine xl_pure rfl rfl rfl (pv_pick_t (v := .bool _) rfl rfl rfl) ?_
    refine xl_nil ?_
    refine xthen_normal ?_
    refine xc_cond_t rfl ?_
    refine xc_seq ?_
    refine xc_region ?_
    refine xl_heavy rfl rfl rfl (hv_call (g := 7) rfl rfl (c7) rfl) ?_
    rintro v2_0 H2_0 ⟨rfl, hE2_0⟩
    have hX := hX.trans hE2_0
    refine xl_pure rfl rfl rfl (pv_assign (v := .bool _) rfl rfl) ?_
    refine xl_nil ?_
    refine xthen_normal ?_
    refine xc_ret ?_
    refine xthen_ret ?_
    refine fin_ret (res1 (v := .bool _) rfl rfl) ?_
    exact ⟨rfl, hX⟩
  · skip
    refine xl_pure rfl rfl rfl (pv_move (v := .bool _) rfl rfl) ?_
    refine xl_pure rfl rfl rfl (pv_move (v := .slice _ _ _) rfl rfl) ?_
    refine xl_heavy rfl rfl rfl (hv_call (g := 18) rfl rfl (c18 (hA.ext hX) 20 (by decide)) rfl) ?_
    rintro v1_5 H1_5 ⟨r1_5, rfl, hf1_5, rfl⟩
    cases r1_5
    · skip
      refine xl_pure rfl rfl rfl (pv_not rfl rfl) ?_
      refine xl_pure rfl rfl rfl (pv_pick_f (v := .bool _) rfl rfl rfl) ?_
      refine xl_nil ?_
      refine xthen_normal ?_
      refine xc_cond_t rfl ?_
      refine xc_seq ?_
      refine xc_region ?_
      refine xl_heavy rfl rfl rfl (hv_call (g := 7) rfl rfl (c7) rfl) ?_
      rintro v2_0 H2_0 ⟨rfl, hE2_0⟩
      have hX := hX.trans hE2_0
      refine xl_pure rfl rfl rfl (pv_assign (v := .bool _) rfl rfl) ?_
      refine xl_nil ?_
      refine xthen_normal ?_
      refine xc_ret ?_
      refine xthen_ret ?_
      refine fin_ret (res1 (v := .bool _) rfl rfl) ?_
      exact ⟨rfl, hX⟩
    · skip
      obtain ⟨hAl, hAs⟩ := hf1_5 rfl
      refine xl_pure rfl rfl rfl (pv_not rfl rfl) ?_
      refine xl_pure rfl rfl rfl (pv_pick_f (v := .bool _) rfl rfl rfl) ?_
      refine xl_nil ?_
      refine xthen_normal ?_
      refine xc_cond_f rfl ?_
      refine xc_skip ?_
      refine xthen_normal ?_
      refine xc_seq ?_
      have hX0 := hX
      refine xc_region ?_
      refine xl_pure rfl rfl rfl (pv_move (v := .slice _ _ _) rfl rfl) ?_
      refine xl_heavy rfl rfl rfl (hv_call (g := 14) rfl rfl (c14 (hL.ext hX) (by omega)) rfl) ?_
      rintro v3_1 H3_1 ⟨e3_1, hl3_1, hv3_1, hE3_1⟩
      have hX := hX.trans hE3_1
      have hX0 := hX0
      rcases hv3_1 with ⟨rfl, ⟨bp, a, c, T, rfl, gbp, mp, hR, hc, hna, ht⟩, hgo⟩ | ⟨hne, rfl⟩
      · skip
        have gbp : Fresh H bp := ⟨Nat.le_trans hX0.size gbp.le⟩
        have hyl := (lds_half hL.1 (Nat.le_refl _) (ldr_ok hl3_1).1).len
        have hyt : (ldB L L.length).length < 800000 := by omega
        refine xl_pure rfl rfl rfl (pv_move (v := .tuple _) rfl rfl) ?_
        refine xl_pure rfl rfl rfl (pv_extract (v := .pointer _) rfl rfl rfl) ?_
        refine xl_pure rfl rfl rfl (pv_extract (v := .int _ _) rfl rfl rfl) ?_
        refine xl_pure rfl rfl rfl (pv_assign (v := .pointer _) rfl rfl) ?_
        refine xl_pure rfl rfl rfl (pv_assign (v := .int _ _) rfl rfl) ?_
        refine xl_nil ?_
        refine xthen_normal ?_
        refine xc_seq ?_
        refine xc_seq ?_
        refine xc_region ?_
        refine xl_pure rfl rfl rfl (pv_move (v := .int _ _) rfl rfl) ?_
        refine xl_ndec rfl rfl rfl (pv_neq rfl rfl rfl) (fun h4_1 => ?_) (fun h4_1 => ?_)
        · skip
          refine xl_nil ?_
          refine xthen_normal ?_
          refine xc_cond_f rfl ?_
          refine xc_skip ?_
          refine xthen_normal ?_
          refine xc_seq ?_
          refine xc_seq ?_
          refine xc_region ?_
          refine xl_pure rfl rfl rfl (pv_move (v := .pointer _) rfl rfl) ?_
          refine xl_pure rfl rfl rfl (pv_eql_pn rfl rfl rfl) ?_
          refine xl_nil ?_
          refine xthen_normal ?_
          refine xc_cond_f rfl ?_
          refine xc_skip ?_
          refine xthen_normal ?_
          refine xc_seq ?_
          refine xc_region ?_
          refine xl_pure rfl rfl rfl (pv_move (v := .pointer _) rfl rfl) ?_
          refine xl_heavy rfl rfl rfl (hv_call (g := 8) rfl rfl (c8 mp hR hc hna (by omega) hgo.srt ht.len) rfl) ?_
          rintro v8_1 H8_1 ⟨b8_1, rfl, m8_1, hF8_1, hE8_1⟩
          have gb8_1 : Fresh H b8_1 := ⟨Nat.le_trans hX.size hF8_1.le⟩
          have nmp_8_1 : Apart bp b8_1 := ⟨Nat.ne_of_lt (Nat.lt_of_lt_of_le mp.lt hF8_1.le)⟩
          have mp := mp.ext hE8_1
          have hR := hR.ext hE8_1
          have hX := hX.trans hE8_1
          have hR0 := hR
          refine xl_pure rfl rfl rfl (pv_move (v := .pointer _) rfl rfl) ?_
          refine xl_heavy rfl rfl rfl (hv_call (g := 12) rfl rfl (c12 mp hR hc hna (by omega)) rfl) ?_
          rintro v8_3 H8_3 ⟨a8_3, c8_3, rfl, hQ8_3, hE8_3⟩
          have mp := mp.ext hE8_3
          have hR := hR.ext hE8_3
          have m8_1 := m8_1.ext hE8_3
          have hR0 := hR0.ext hE8_3
          have hX := hX.trans hE8_3
          refine xl_pure rfl rfl rfl (pv_assign (v := .pointer _) rfl rfl) ?_
          refine xl_pure rfl rfl rfl (pv_assign (v := .slice _ _ _) rfl rfl) ?_
          refine xl_nil ?_
          refine xthen_normal ?_
          refine xc_seq ?_
          refine xc_seq ?_
          refine xc_region ?_
          refine xl_pure rfl rfl rfl (pv_assign (v := .int _ _) rfl rfl) ?_
          refine xl_nil ?_
          refine xthen_normal ?_
          refine xc_block ?_
          refine xc_loop (τ := Nat × Option Addr × Nat × List Int) (fun t => [(1, .slice aA A.length cA), (5, .pointer (some ⟨bp, 0, none⟩)), (7, .pointer (some ⟨b8_1, 0, none⟩)), (8, .slice a8_3 (ldB L L.length).length c8_3), (9, .int .i64 (t.1 : Nat))]) (fun t H' => (t.1 ≤ A.length) ∧ (Blk H' bp (.slice t.2.1 ((ast (ldB L L.length) A t.1)).length t.2.2.1 :: ints (t.2.2.2)) 62) ∧ (RowsT H' 88 5 t.2.1 (ast (ldB L L.length) A t.1)) ∧ ((ast (ldB L L.length) A t.1).length ≤ t.2.2.1) ∧ (t.2.1 = none → t.2.2.1 = 0) ∧ (Tots (ast (ldB L L.length) A t.1) t.2.2.2) ∧ (Blk H' b8_1 (.slice a ((ldB L L.length)).length c :: ints (T)) 62) ∧ (RowsT H' 88 5 a (ldB L L.length)) ∧ (RowsT H' 74 5 a8_3 (ldB L L.length)) ∧ (Ext H H')) (fun t H' => A.length - t.1) (0, a, c, T) ?_ ?_ ?_
          · exact ⟨rfl, rfl, rfl, rfl, rfl, trivial⟩
          · skip
            exact ⟨Nat.zero_le _, mp, hR, hc, hna, ht, m8_1, hR0, hQ8_3, hX⟩
          · intro σ
            clear hX mp hR m8_1 hR0 hQ8_3
            rintro ⟨i, a1, c1, T1⟩ Hl10 ⟨hi, mp, hR, hc1, hna1, hty, m8_1, hR0, hQ8_3, hX⟩
            replace hi : i ≤ A.length := hi
            replace mp : Blk Hl10 bp (.slice a1 ((ast (ldB L L.length) A i)).length c1 :: ints (T1)) 62 := mp
            replace hR : RowsT Hl10 88 5 a1 (ast (ldB L L.length) A i) := hR
            replace hc1 : (ast (ldB L L.length) A i).length ≤ c1 := hc1
            replace hna1 : a1 = none → c1 = 0 := hna1
            replace hty : Tots (ast (ldB L L.length) A i) T1 := hty
            replace m8_1 : Blk Hl10 b8_1 (.slice a ((ldB L L.length)).length c :: ints (T)) 62 := m8_1
            replace hR0 : RowsT Hl10 88 5 a (ldB L L.length) := hR0
            replace hQ8_3 : RowsT Hl10 74 5 a8_3 (ldB L L.length) := hQ8_3
            replace hX : Ext H Hl10 := hX
            obtain ⟨hgi, hli⟩ := goo_ast (A := A) hgo i
            obtain ⟨hgn, hln⟩ := goo_act (r := gA A i) hgi
            have hlt : (ast (ldB L L.length) A i).length < 900000 := by omega
            have hltn : (actX (ast (ldB L L.length) A i) (gA A i)).length < 1000000 := by omega
            obtain ⟨bl, ofl, hAe⟩ := (hA.ext hX).at'
            show XC _ _ _ (upds σ [(1, .slice aA A.length cA), (5, .pointer (some ⟨bp, 0, none⟩)), (7, .pointer (some ⟨b8_1, 0, none⟩)), (8, .slice a8_3 (ldB L L.length).length c8_3), (9, .int .i64 (i : Nat))]) _
            refine xc_seq ?_
            refine xc_seq ?_
            refine xc_region ?_
            refine xl_pure rfl rfl rfl (pv_move (v := .int _ _) rfl rfl) ?_
            refine xl_pure rfl rfl rfl (pv_move (v := .slice _ _ _) rfl rfl) ?_
            refine xl_pure rfl rfl rfl (pv_len_l rfl rfl) ?_
            refine xl_dec rfl rfl rfl (pv_lss rfl rfl rfl) (fun h10_3 => ?_) (fun h10_3 => ?_)
            · skip
              refine xl_nil ?_
              refine xthen_normal ?_
              refine xc_cond_t rfl ?_
              refine xc_skip ?_
              refine xthen_normal ?_
              refine xc_seq ?_
              refine xc_block ?_
              refine xc_seq ?_
              refine xc_region ?_
              refine xl_pure rfl rfl rfl (pv_move (v := .pointer _) rfl rfl) ?_
              refine xl_heavy rfl rfl rfl (hv_call (g := 12) rfl rfl (c12 mp hR hc1 hna1 (by omega)) rfl) ?_
              rintro v12_1 H12_1 ⟨a12_1, c12_1, rfl, hQ12_1, hE12_1⟩
              have mp := mp.ext hE12_1
              have hR := hR.ext hE12_1
              have m8_1 := m8_1.ext hE12_1
              have hR0 := hR0.ext hE12_1
              have hQ8_3 := hQ8_3.ext hE12_1
              have hX := hX.trans hE12_1
              refine xl_pure rfl rfl rfl (pv_assign (v := .slice _ _ _) rfl rfl) ?_
              refine xl_nil ?_
              refine xthen_normal ?_
              refine xc_seq ?_
              obtain ⟨bl, ofl, hAe⟩ := (hA.ext hX).at'
              refine xc_region ?_
              refine xl_pure rfl rfl rfl (pv_move (v := .slice _ _ _) rfl rfl) ?_
              refine xl_pure rfl rfl rfl (pv_move (v := .int _ _) rfl rfl) ?_
              refine xl_pure rfl rfl rfl (pv_indexAddr_l rfl (sl_eq (hAe (by omega)).1) rfl (by omega)) ?_
              refine xl_pure rfl rfl rfl (pv_fieldAddr rfl rfl) ?_
              refine xl_pure rfl rfl rfl (pv_fieldAddr rfl rfl) ?_
              refine xl_light rfl rfl rfl (lv_load (v := .int _ _) rfl rfl (by exact ld_acell (hAe (by omega)).2 (by omega) (j := 5) rfl)) ?_
              refine xl_pure rfl rfl rfl (pv_assign (v := .int _ _) rfl rfl) ?_
              refine xl_nil ?_
              refine xthen_normal ?_
              refine xc_seq ?_
              refine xc_region ?_
              refine xl_pure rfl rfl rfl (pv_move (v := .pointer _) rfl rfl) ?_
              refine xl_pure rfl rfl rfl (pv_move (v := .int _ _) rfl rfl) ?_
              refine xl_heavy rfl rfl rfl (hv_call (g := 11) rfl rfl (c11g mp hR hc1 hna1 (by omega) hgi hty _) rfl) ?_
              rintro v14_2 H14_2 ⟨rfl, rfl⟩
              refine xl_pure rfl rfl rfl (pv_assign (v := .int _ _) rfl rfl) ?_
              refine xl_nil ?_
              refine xthen_normal ?_
              refine xc_seq ?_
              obtain ⟨bl, ofl, hAe⟩ := (hA.ext hX).at'
              refine xc_region ?_
              refine xl_pure rfl rfl rfl (pv_move (v := .pointer _) rfl rfl) ?_
              refine xl_pure rfl rfl rfl (pv_move (v := .slice _ _ _) rfl rfl) ?_
              refine xl_pure rfl rfl rfl (pv_move (v := .int _ _) rfl rfl) ?_
              refine xl_pure rfl rfl rfl (pv_indexAddr_l rfl (sl_eq (hAe (by omega)).1) rfl (by omega)) ?_
              refine xl_light rfl rfl rfl (lv_load (v := .agg _) rfl rfl (by exact ld_act (hAe (by omega)).2 (by omega))) ?_
              refine xl_heavy rfl rfl rfl (hv_call (g := 9) rfl rfl (c9 mp hR hc1 hna1 hlt hgi hty (gA A i) (hAI i (by omega)) (stksO_new (hA.stks (show i < A.length by omega)) hX gbp.le) (by have := hAs i (by omega); omega)) rfl) ?_
              rintro v15_5 H15_5 ⟨a15_5, c15_5, T15_5, rfl, hB15_5, hT15_5, hR15_5, hc15_5, hna15_5, ht15_5⟩
              have hR := hR.offT mp hB15_5 (by first | rfl | assumption)
              have m8_1 := m8_1.off hB15_5 (by first | exact nmp_8_1.symm | exact ⟨m8_1.ne mp rfl⟩ | exact ⟨m8_1.ne mp (by assumption)⟩ | exact ⟨Ne.symm (mp.ne m8_1 (by assumption))⟩)
              have hR0 := hR0.offT mp hB15_5 (by first | rfl | assumption)
              have hQ8_3 := hQ8_3.offT mp hB15_5 (by first | rfl | assumption)
              have hQ12_1 := hQ12_1.offT mp hB15_5 (by first | rfl | assumption)
              have hX := hX.upd hB15_5 gbp
              have mp := hT15_5
              refine xl_pure rfl rfl rfl (pv_assign (v := .int _ _) rfl rfl) ?_
              refine xl_nil ?_
              refine xthen_normal ?_
              refine xc_seq ?_
              obtain ⟨bl, ofl, hAe⟩ := (hA.ext hX).at'
              refine xc_region ?_
              refine xl_pure rfl rfl rfl (pv_move (v := .int _ _) rfl rfl) ?_
              refine xl_ndec rfl rfl rfl (pv_neq rfl rfl rfl) (fun h16_1 => ?_) (fun h16_1 => ?_)
              · skip
                refine xl_pure rfl rfl rfl (pv_move (v := .bool _) rfl rfl) ?_
                refine xl_skip rfl rfl rfl ?_
                refine xl_skip rfl rfl rfl ?_
                refine xl_skip rfl rfl rfl ?_
                refine xl_skip rfl rfl rfl ?_
                refine xl_skip rfl rfl rfl ?_
                refine xl_pure rfl rfl rfl (pv_pick_f (v := .bool _) rfl rfl rfl) ?_
                refine xl_pure rfl rfl rfl (pv_move (v := .bool _) rfl rfl) ?_
                refine xl_pure rfl rfl rfl (pv_move (v := .slice _ _ _) rfl rfl) ?_
                refine xl_pure rfl rfl rfl (pv_move (v := .int _ _) rfl rfl) ?_
                refine xl_pure rfl rfl rfl (pv_indexAddr_l rfl (sl_eq (hAe (by omega)).1) rfl (by omega)) ?_
                refine xl_pure rfl rfl rfl (pv_fieldAddr rfl rfl) ?_
                refine xl_light rfl rfl rfl (lv_load (v := .int _ _) rfl rfl (by first | exact ld_acell (hAe (by omega)).2 (by omega) (j := 0) rfl | exact cellAt_ext (ld_acell (hAe (by omega)).2 (by omega) (j := 0) rfl) hE16_4)) ?_
                refine xl_dec rfl rfl rfl (pv_eql rfl rfl rfl) (fun h16_15 => ?_) (fun h16_15 => ?_)
                · skip
                  refine xl_pure rfl rfl rfl (pv_move (v := .bool _) rfl rfl) ?_
                  refine xl_pure rfl rfl rfl (pv_move (v := .pointer _) rfl rfl) ?_
                  refine xl_pure rfl rfl rfl (pv_move (v := .int _ _) rfl rfl) ?_
                  refine xl_heavy rfl rfl rfl (hv_call (g := 11) rfl rfl (c11g mp hR15_5 hc15_5 hna15_5 hltn hgn ht15_5 _) rfl) ?_
                  rintro v16_19 H16_19 ⟨rfl, rfl⟩
                  refine xl_pure rfl rfl rfl (pv_move (v := .int _ _) rfl rfl) ?_
                  refine xl_ndec rfl rfl rfl (pv_neq rfl rfl rfl) (fun h16_21 => ?_) (fun h16_21 => ?_)
                  · skip
                    refine xl_pure rfl rfl rfl (pv_pick_t (v := .bool _) rfl rfl rfl) ?_
                    refine xl_pure rfl rfl rfl (pv_pick_f (v := .bool _) rfl rfl rfl) ?_
                    refine xl_nil ?_
                    refine xthen_normal ?_
                    refine xc_cond_f rfl ?_
                    refine xc_skip ?_
                    refine xblock_normal ?_
                    refine xthen_normal ?_
                    refine xc_region ?_
                    refine xl_pure rfl rfl rfl (pv_move (v := .int _ _) rfl rfl) ?_
                    refine xl_pure rfl rfl rfl (pv_add rfl rfl rfl (fit_i64 (by omega))) ?_
                    refine xl_pure rfl rfl rfl (pv_assign (v := .int _ _) rfl rfl) ?_
                    refine xl_nil ?_
                    refine xthen_normal ?_
                    exact ⟨(i + 1, _, _, _), ⟨rfl, rfl, rfl, rfl, rfl, trivial⟩, ⟨by (try simp only); omega, mp, hR15_5, hc15_5, hna15_5, ht15_5, m8_1, hR0, hQ8_3, hX⟩, by (try simp only); omega⟩
                  · exact absurd (act_tot hgi h16_15 _) h16_21
                · skip
                  refine xl_pure rfl rfl rfl (pv_move (v := .bool _) rfl rfl) ?_
                  refine xl_skip rfl rfl rfl ?_
                  refine xl_skip rfl rfl rfl ?_
                  refine xl_skip rfl rfl rfl ?_
                  refine xl_skip rfl rfl rfl ?_
                  refine xl_skip rfl rfl rfl ?_
                  refine xl_pure rfl rfl rfl (pv_pick_f (v := .bool _) rfl rfl rfl) ?_
                  refine xl_pure rfl rfl rfl (pv_pick_f (v := .bool _) rfl rfl rfl) ?_
                  refine xl_nil ?_
                  refine xthen_normal ?_
                  refine xc_cond_f rfl ?_
                  refine xc_skip ?_
                  refine xblock_normal ?_
                  refine xthen_normal ?_
                  refine xc_region ?_
                  refine xl_pure rfl rfl rfl (pv_move (v := .int _ _) rfl rfl) ?_
                  refine xl_pure rfl rfl rfl (pv_add rfl rfl rfl (fit_i64 (by omega))) ?_
                  refine xl_pure rfl rfl rfl (pv_assign (v := .int _ _) rfl rfl) ?_
                  refine xl_nil ?_
                  refine xthen_normal ?_
                  exact ⟨(i + 1, _, _, _), ⟨rfl, rfl, rfl, rfl, rfl, trivial⟩, ⟨by (try simp only); omega, mp, hR15_5, hc15_5, hna15_5, ht15_5, m8_1, hR0, hQ8_3, hX⟩, by (try simp only); omega⟩
              · skip
                refine xl_pure rfl rfl rfl (pv_move (v := .bool _) rfl rfl) ?_
                refine xl_pure rfl rfl rfl (pv_move (v := .pointer _) rfl rfl) ?_
                refine xl_heavy rfl rfl rfl (hv_call (g := 12) rfl rfl (c12 mp hR15_5 hc15_5 hna15_5 hltn) rfl) ?_
                rintro v16_4 H16_4 ⟨a16_4, c16_4, rfl, hQ16_4, hE16_4⟩
                have mp := mp.ext hE16_4
                have hR := hR.ext hE16_4
                have m8_1 := m8_1.ext hE16_4
                have hR0 := hR0.ext hE16_4
                have hQ8_3 := hQ8_3.ext hE16_4
                have hQ12_1 := hQ12_1.ext hE16_4
                have hR15_5 := hR15_5.ext hE16_4
                have hX := hX.trans hE16_4
                refine xl_pure rfl rfl rfl (pv_move (v := .slice _ _ _) rfl rfl) ?_
                refine xl_heavy rfl rfl rfl (hv_call (g := 16) rfl rfl (c16 ((actX (ast (ldB L L.length) A i) (gA A i))) ((ast (ldB L L.length) A i)) _ _ _ _ hQ16_4.rows hQ12_1.rows (by omega)) rfl) ?_
                rintro v16_6 H16_6 ⟨r16_6, rfl, hb16_6, rfl⟩
                obtain rfl : r16_6 = true := hb16_6.2 (act_stay h16_1)
                refine xl_pure rfl rfl rfl (pv_not rfl rfl) ?_
                refine xl_pure rfl rfl rfl (pv_pick_t (v := .bool _) rfl rfl rfl) ?_
                refine xl_pure rfl rfl rfl (pv_move (v := .bool _) rfl rfl) ?_
                refine xl_pure rfl rfl rfl (pv_move (v := .slice _ _ _) rfl rfl) ?_
                refine xl_pure rfl rfl rfl (pv_move (v := .int _ _) rfl rfl) ?_
                refine xl_pure rfl rfl rfl (pv_indexAddr_l rfl (sl_eq (hAe (by omega)).1) rfl (by omega)) ?_
                refine xl_pure rfl rfl rfl (pv_fieldAddr rfl rfl) ?_
                refine xl_light rfl rfl rfl (lv_load (v := .int _ _) rfl rfl (by first | exact ld_acell (hAe (by omega)).2 (by omega) (j := 0) rfl | exact cellAt_ext (ld_acell (hAe (by omega)).2 (by omega) (j := 0) rfl) hE16_4)) ?_
                refine xl_dec rfl rfl rfl (pv_eql rfl rfl rfl) (fun h16_15 => ?_) (fun h16_15 => ?_)
                · skip
                  refine xl_pure rfl rfl rfl (pv_move (v := .bool _) rfl rfl) ?_
                  refine xl_pure rfl rfl rfl (pv_move (v := .pointer _) rfl rfl) ?_
                  refine xl_pure rfl rfl rfl (pv_move (v := .int _ _) rfl rfl) ?_
                  refine xl_heavy rfl rfl rfl (hv_call (g := 11) rfl rfl (c11g mp hR15_5 hc15_5 hna15_5 hltn hgn ht15_5 _) rfl) ?_
                  rintro v16_19 H16_19 ⟨rfl, rfl⟩
                  refine xl_pure rfl rfl rfl (pv_move (v := .int _ _) rfl rfl) ?_
                  refine xl_ndec rfl rfl rfl (pv_neq rfl rfl rfl) (fun h16_21 => ?_) (fun h16_21 => ?_)
                  · skip
                    refine xl_pure rfl rfl rfl (pv_pick_t (v := .bool _) rfl rfl rfl) ?_
                    refine xl_pure rfl rfl rfl (pv_pick_f (v := .bool _) rfl rfl rfl) ?_
                    refine xl_nil ?_
                    refine xthen_normal ?_
                    refine xc_cond_f rfl ?_
                    refine xc_skip ?_
                    refine xblock_normal ?_
                    refine xthen_normal ?_
                    refine xc_region ?_
                    refine xl_pure rfl rfl rfl (pv_move (v := .int _ _) rfl rfl) ?_
                    refine xl_pure rfl rfl rfl (pv_add rfl rfl rfl (fit_i64 (by omega))) ?_
                    refine xl_pure rfl rfl rfl (pv_assign (v := .int _ _) rfl rfl) ?_
                    refine xl_nil ?_
                    refine xthen_normal ?_
                    exact ⟨(i + 1, _, _, _), ⟨rfl, rfl, rfl, rfl, rfl, trivial⟩, ⟨by (try simp only); omega, mp, hR15_5, hc15_5, hna15_5, ht15_5, m8_1, hR0, hQ8_3, hX⟩, by (try simp only); omega⟩
                  · exact absurd (act_tot hgi h16_15 _) h16_21
                · skip
                  refine xl_pure rfl rfl rfl (pv_move (v := .bool _) rfl rfl) ?_
                  refine xl_skip rfl rfl rfl ?_
                  refine xl_skip rfl rfl rfl ?_
                  refine xl_skip rfl rfl rfl ?_
                  refine xl_skip rfl rfl rfl ?_
                  refine xl_skip rfl rfl rfl ?_
                  refine xl_pure rfl rfl rfl (pv_pick_f (v := .bool _) rfl rfl rfl) ?_
                  refine xl_pure rfl rfl rfl (pv_pick_f (v := .bool _) rfl rfl rfl) ?_
                  refine xl_nil ?_
                  refine xthen_normal ?_
                  refine xc_cond_f rfl ?_
                  refine xc_skip ?_
                  refine xblock_normal ?_
                  refine xthen_normal ?_
                  refine xc_region ?_
                  refine xl_pure rfl rfl rfl (pv_move (v := .int _ _) rfl rfl) ?_
                  refine xl_pure rfl rfl rfl (pv_add rfl rfl rfl (fit_i64 (by omega))) ?_
                  refine xl_pure rfl rfl rfl (pv_assign (v := .int _ _) rfl rfl) ?_
                  refine xl_nil ?_
                  refine xthen_normal ?_
                  exact ⟨(i + 1, _, _, _), ⟨rfl, rfl, rfl, rfl, rfl, trivial⟩, ⟨by (try simp only); omega, mp, hR15_5, hc15_5, hna15_5, ht15_5, m8_1, hR0, hQ8_3, hX⟩, by (try simp only); omega⟩
            · skip
              refine xl_nil ?_
              refine xthen_normal ?_
              refine xc_cond_f rfl ?_
              refine xc_exit ?_
              refine xthen_exit ?_
              refine xthen_exit ?_
              refine xblock_same ?_
              refine xthen_normal ?_
              refine xc_seq ?_
              refine xc_region ?_
              refine xl_pure rfl rfl rfl (pv_move (v := .pointer _) rfl rfl) ?_
              refine xl_pure rfl rfl rfl (pv_neq_pn rfl rfl rfl) ?_
              refine xl_pure rfl rfl rfl (pv_move (v := .bool _) rfl rfl) ?_
              refine xl_pure rfl rfl rfl (pv_move (v := .pointer _) rfl rfl) ?_
              refine xl_heavy rfl rfl rfl (hv_call (g := 12) rfl rfl (c12 m8_1 hR0 hc hna (by omega)) rfl) ?_
              rintro v18_4 H18_4 ⟨a18_4, c18_4, rfl, hQ18_4, hE18_4⟩
              have mp := mp.ext hE18_4
              have hR := hR.ext hE18_4
              have m8_1 := m8_1.ext hE18_4
              have hR0 := hR0.ext hE18_4
              have hQ8_3 := hQ8_3.ext hE18_4
              have hX := hX.trans hE18_4
              refine xl_pure rfl rfl rfl (pv_move (v := .slice _ _ _) rfl rfl) ?_
              refine xl_heavy rfl rfl rfl (hv_call (g := 16) rfl rfl (c16 ((ldB L L.length)) ((ldB L L.length)) _ _ _ _ hQ18_4.rows hQ8_3.rows (by omega)) rfl) ?_
              rintro v18_6 H18_6 ⟨r18_6, rfl, hb18_6, rfl⟩
              obtain rfl : r18_6 = true := hb18_6.2 rfl
              refine xl_pure rfl rfl rfl (pv_pick_t (v := .bool _) rfl rfl rfl) ?_
              refine xl_pure rfl rfl rfl (pv_move (v := .bool _) rfl rfl) ?_
              refine xl_heavy rfl rfl rfl (hv_call (g := 7) rfl rfl (c7) rfl) ?_
              rintro v18_9 H18_9 ⟨rfl, hE18_9⟩
              have mp := mp.ext hE18_9
              have hR := hR.ext hE18_9
              have m8_1 := m8_1.ext hE18_9
              have hR0 := hR0.ext hE18_9
              have hQ8_3 := hQ8_3.ext hE18_9
              have hQ18_4 := hQ18_4.ext hE18_9
              have hX := hX.trans hE18_9
              refine xl_pure rfl rfl rfl (pv_pick_t (v := .bool _) rfl rfl rfl) ?_
              refine xl_pure rfl rfl rfl (pv_assign (v := .bool _) rfl rfl) ?_
              refine xl_nil ?_
              refine xthen_normal ?_
              refine xc_ret ?_
              refine fin_ret (res1 (v := .bool _) rfl rfl) ?_
              exact ⟨rfl, hX⟩
        · exact absurd rfl h4_1
      · skip
        refine xl_pure rfl rfl rfl (pv_move (v := .tuple _) rfl rfl) ?_
        refine xl_pure rfl rfl rfl (pv_extract (v := .pointer _) rfl rfl rfl) ?_
        refine xl_pure rfl rfl rfl (pv_extract (v := .int _ _) rfl rfl rfl) ?_
        refine xl_pure rfl rfl rfl (pv_assign (v := .pointer _) rfl rfl) ?_
        refine xl_pure rfl rfl rfl (pv_assign (v := .int _ _) rfl rfl) ?_
        refine xl_nil ?_
        refine xthen_normal ?_
        refine xc_seq ?_
        refine xc_seq ?_
        refine xc_region ?_
        refine xl_pure rfl rfl rfl (pv_move (v := .int _ _) rfl rfl) ?_
        refine xl_ndec rfl rfl rfl (pv_neq rfl rfl rfl) (fun h4_1 => ?_) (fun h4_1 => ?_)
        · exact absurd h4_1 hne
        · skip
          refine xl_nil ?_
          refine xthen_normal ?_
          refine xc_cond_t rfl ?_
          refine xc_seq ?_
          refine xc_region ?_
          refine xl_pure rfl rfl rfl (pv_move (v := .pointer _) rfl rfl) ?_
          refine xl_pure rfl rfl rfl (pv_eql_nn rfl rfl rfl) ?_
          refine xl_pure rfl rfl rfl (pv_move (v := .bool _) rfl rfl) ?_
          refine xl_heavy rfl rfl rfl (hv_call (g := 7) rfl rfl (c7) rfl) ?_
          rintro v5_3 H5_3 ⟨rfl, hE5_3⟩
          have hX := hX.trans hE5_3
          refine xl_pure rfl rfl rfl (pv_pick_t (v := .bool _) rfl rfl rfl) ?_
          refine xl_pure rfl rfl rfl (pv_assign (v := .bool _) rfl rfl) ?_
          refine xl_nil ?_
          refine xthen_normal ?_
          refine xc_ret ?_
          refine xthen_ret ?_
          refine fin_ret (res1 (v := .bool _) rfl rfl) ?_
          exact ⟨rfl, hX⟩

theorem c4 {O : Outer} {H : Heap} {al : Option Addr} {cl : Nat} {L : List (List Int)} (hL : Rows H al 5 L) (x0 x1 x2 x3 : Int) {sa : Option Addr} {sc : Nat} {s : List Stack} (hS : Stks H sa s) :
    FnC Try.prog 4 #[.slice al L.length cl, .agg #[.int .i64 x0, .int .i64 x1, .int .i64 x2, .int .i64 x3], .slice sa s.length sc] O H (fun v H' => v = .bool true ∧ Ext H H') := by
  refine fn_enter (A := [.slice al L.length cl, .agg #[.int .i64 x0, .int .i64 x1, .int .i64 x2, .int .i64 x3], .slice sa s.length sc]) Try.func4 rfl rfl ?_
  have hX := Ext.refl H
  refine xc_seq ?_
  refine xc_region ?_
  refine xl_heavy rfl rfl rfl (hv_box rfl rfl) ?_
  rintro v0_0 H0_0 ⟨b0_0, rfl, hN0_0⟩
  have gb0_0 := hX.fresh hN0_0
  have hX := hX.trans hN0_0.ext
  have m0_0 := hN0_0.blk
  refine xl_pure rfl rfl rfl (pv_assign (v := .bool _) rfl rfl) ?_
  refine xl_nil ?_
  refine xthen_normal ?_
  refine xc_seq ?_
  refine xc_seq ?_
  refine xc_region ?_
  refine xl_pure rfl rfl rfl (pv_move (v := .slice _ _ _) rfl rfl) ?_
  refine xl_pure rfl rfl rfl (pv_len_l rfl rfl) ?_
  refine xl_dec rfl rfl rfl (pv_gtr rfl rfl rfl) (fun h1_2 => ?_) (fun h1_2 => ?_)
  · skip
    refine xl_pure rfl rfl rfl (pv_move (v := .bool _) rfl rfl) ?_
    refine xl_skip rfl rfl rfl ?_
    refine xl_skip rfl rfl rfl ?_
    refine xl_skip rfl rfl rfl ?_
    refine xl_pure rfl rfl rfl (pv_pick_t (v := .bool _) rfl rfl rfl) ?_
    refine xl_nil ?_
    refine xthen_normal ?_
    refine xc_cond_t rfl ?_
    refine xc_seq ?_
    refine xc_region ?_
    refine xl_heavy rfl rfl rfl (hv_call (g := 7) rfl rfl (c7) rfl) ?_
    rintro v2_0 H2_0 ⟨rfl, hE2_0⟩
    have m0_0 := m0_0.ext hE2_0
    have hX := hX.trans hE2_0
    refine xl_pure rfl rfl rfl (pv_assign (v := .bool _) rfl rfl) ?_
    refine xl_nil ?_
    refine xthen_normal ?_
    refine xc_ret ?_
    refine xthen_ret ?_
    refine fin_ret (res1 (v := .bool _) rfl rfl) ?_
    exact ⟨rfl, hX⟩
  · skip
    refine xl_pure rfl rfl rfl (pv_move (v := .bool _) rfl rfl) ?_
    refine xl_pure rfl rfl rfl (pv_move (v := .slice _ _ _) rfl rfl) ?_
    refine xl_pure rfl rfl rfl (pv_len_l rfl rfl) ?_
    refine xl_dec rfl rfl rfl (pv_gtr rfl rfl rfl) (fun h1_6 => ?_) (fun h1_6 => ?_)
    · skip
      refine xl_pure rfl rfl rfl (pv_pick_f (v := .bool _) rfl rfl rfl) ?_
      refine xl_nil ?_
      refine xthen_normal ?_
      refine xc_cond_t rfl ?_
      refine xc_seq ?_
      refine xc_region ?_
      refine xl_heavy rfl rfl rfl (hv_call (g := 7) rfl rfl (c7) rfl) ?_
      rintro v2_0 H2_0 ⟨rfl, hE2_0⟩
      have m0_0 := m0_0.ext hE2_0
      have hX := hX.trans hE2_0
      refine xl_pure rfl rfl rfl (pv_assign (v := .bool _) rfl rfl) ?_
      refine xl_nil ?_
      refine xthen_normal ?_
      refine xc_ret ?_
      refine xthen_ret ?_
      refine fin_ret (res1 (v := .bool _) rfl rfl) ?_
      exact ⟨rfl, hX⟩
    · skip
      refine xl_pure rfl rfl rfl (pv_pick_f (v := .bool _) rfl rfl rfl) ?_
      refine xl_nil ?_
      refine xthen_normal ?_
      refine xc_cond_f rfl ?_
      refine xc_skip ?_
      refine xthen_normal ?_
      refine xc_seq ?_
      have hX0 := hX
      refine xc_region ?_
      refine xl_pure rfl rfl rfl (pv_move (v := .slice _ _ _) rfl rfl) ?_
      refine xl_heavy rfl rfl rfl (hv_call (g := 14) rfl rfl (c14 (hL.ext hX) (by omega)) rfl) ?_
      rintro v3_1 H3_1 ⟨e3_1, hl3_1, hv3_1, hE3_1⟩
      have m0_0 := m0_0.ext hE3_1
      have hX := hX.trans hE3_1
      have hX0 := hX0
      rcases hv3_1 with ⟨rfl, ⟨bp, a, c, T, rfl, gbp, mp, hR, hc, hna, ht⟩, hgo⟩ | ⟨hne, rfl⟩
      · skip
        have gbp : Fresh H bp := ⟨Nat.le_trans hX0.size gbp.le⟩
        have hyl := (lds_half hL.1 (Nat.le_refl _) (ldr_ok hl3_1).1).len
        have hyt : (ldB L L.length).length < 800000 := by omega
        refine xl_pure rfl rfl rfl (pv_move (v := .tuple _) rfl rfl) ?_
        refine xl_pure rfl rfl rfl (pv_extract (v := .pointer _) rfl rfl rfl) ?_
        refine xl_pure rfl rfl rfl (pv_extract (v := .int _ _) rfl rfl rfl) ?_
        refine xl_pure rfl rfl rfl (pv_assign (v := .pointer _) rfl rfl) ?_
        refine xl_pure rfl rfl rfl (pv_assign (v := .int _ _) rfl rfl) ?_
        refine xl_nil ?_
        refine xthen_normal ?_
        refine xc_seq ?_
        refine xc_seq ?_
        refine xc_region ?_
        refine xl_pure rfl rfl rfl (pv_move (v := .int _ _) rfl rfl) ?_
        refine xl_ndec rfl rfl rfl (pv_neq rfl rfl rfl) (fun h4_1 => ?_) (fun h4_1 => ?_)
        · skip
          refine xl_nil ?_
          refine xthen_normal ?_
          refine xc_cond_f rfl ?_
          refine xc_skip ?_
          refine xthen_normal ?_
          refine xc_seq ?_
          refine xc_seq ?_
          refine xc_region ?_
          refine xl_pure rfl rfl rfl (pv_move (v := .pointer _) rfl rfl) ?_
          refine xl_pure rfl rfl rfl (pv_eql_pn rfl rfl rfl) ?_
          refine xl_nil ?_
          refine xthen_normal ?_
          refine xc_cond_f rfl ?_
          refine xc_skip ?_
          refine xthen_normal ?_
          refine xc_seq ?_
          refine xc_region ?_
          refine xl_pure rfl rfl rfl (pv_move (v := .pointer _) rfl rfl) ?_
          refine xl_heavy rfl rfl rfl (hv_call (g := 12) rfl rfl (c12 mp hR hc hna (by omega)) rfl) ?_
          rintro v8_1 H8_1 ⟨a8_1, c8_1, rfl, hQ8_1, hE8_1⟩
          have m0_0 := m0_0.ext hE8_1
          have mp := mp.ext hE8_1
          have hR := hR.ext hE8_1
          have hX := hX.trans hE8_1
          refine xl_pure rfl rfl rfl (pv_assign (v := .slice _ _ _) rfl rfl) ?_
          refine xl_nil ?_
          refine xthen_normal ?_
          refine xc_seq ?_
          refine xc_seq ?_
          refine xc_region ?_
          refine xl_pure rfl rfl rfl (pv_move (v := .pointer _) rfl rfl) ?_
          refine xl_light rfl rfl rfl (lv_load (v := .agg _) rfl rfl (ld_blk_a m0_0 rfl rfl)) ?_
          refine xl_pure rfl rfl rfl (pv_move (v := .slice _ _ _) rfl rfl) ?_
          refine xl_heavy rfl rfl rfl (hv_call (g := 15) rfl rfl (c15 mp hR hc hna (by omega) hgo ht x0 x1 x2 x3 (stksO_new hS hX gbp.le) (by omega)) rfl) ?_
          rintro v9_3 H9_3 ⟨a9_3, c9_3, T9_3, rfl, hB9_3, hT9_3, hR9_3, hc9_3, hna9_3, ht9_3⟩
          have m0_0 := m0_0.off hB9_3 (by first | exact nm0_0_mp | exact ⟨m0_0.ne mp rfl⟩ | exact ⟨m0_0.ne mp (by assumption)⟩ | exact ⟨Ne.symm (mp.ne m0_0 (by assumption))⟩)
          have hR := hR.offT mp hB9_3 (by first | rfl | assumption)
          have hQ8_1 := hQ8_1.offT mp hB9_3 (by first | rfl | assumption)
          have hX := hX.upd hB9_3 gbp
          have mp := hT9_3
          refine xl_ndec rfl rfl rfl (pv_neq rfl rfl rfl) (fun h9_4 => ?_) (fun h9_4 => ?_)
          · skip
            refine xl_nil ?_
            refine xthen_normal ?_
            refine xc_cond_f rfl ?_
            refine xc_skip ?_
            refine xthen_normal ?_
            refine xc_seq ?_
            refine xc_seq ?_
            refine xc_region ?_
            refine xl_pure rfl rfl rfl (pv_assign (v := .int _ _) rfl rfl) ?_
            refine xl_nil ?_
            refine xthen_normal ?_
            refine xc_block ?_
            refine xc_loop (τ := Nat × List (List Int) × Option Addr × Nat × List Int) (fun t => [(2, .slice sa s.length sc), (4, .pointer (some ⟨b0_0, 0, none⟩)), (7, .pointer (some ⟨bp, 0, none⟩)), (9, .slice a8_1 (ldB L L.length).length c8_1), (10, .int .i64 (t.1 : Nat))]) (fun t H' => (t.1 ≤ s.length) ∧ (Bck (ldB L L.length) x0 x1 x2 s t.1 t.2.1) ∧ (t.2.1.length ≤ (ldB L L.length).length + 8 + t.1) ∧ (Blk H' bp (.slice t.2.2.1 (t.2.1).length t.2.2.2.1 :: ints (t.2.2.2.2)) 62) ∧ (RowsT H' 88 5 t.2.2.1 t.2.1) ∧ (t.2.1.length ≤ t.2.2.2.1) ∧ (t.2.2.1 = none → t.2.2.2.1 = 0) ∧ (Tots t.2.1 t.2.2.2.2) ∧ (RowsT H' 74 5 a8_1 (ldB L L.length)) ∧ (Blk H' b0_0 [.int .i64 x0, .int .i64 x1, .int .i64 x2, .int .i64 x3] 23) ∧ (Ext H H')) (fun t H' => s.length - t.1) (0, (allX true (ldB L L.length) x0 x1 x2 s), a9_3, c9_3, T9_3) ?_ ?_ ?_
            · exact ⟨rfl, rfl, rfl, rfl, rfl, trivial⟩
            · skip
              exact ⟨Nat.zero_le _, (bck_start hgo h9_4).2, (goo_all hgo).2, mp, hR9_3, hc9_3, hna9_3, ht9_3, hQ8_1, m0_0, hX⟩
            · intro σ
              clear hX m0_0 mp hR hQ8_1 hR9_3
              rintro ⟨i, y, a1, c1, T1⟩ Hl12 ⟨hi, hb, hyl2, mp, hR, hc1, hna1, hty, hQ8_1, m0_0, hX⟩
              replace hi : i ≤ s.length := hi
              replace hb : Bck (ldB L L.length) x0 x1 x2 s i y := hb
              replace hyl2 : y.length ≤ (ldB L L.length).length + 8 + i := hyl2
              replace mp : Blk Hl12 bp (.slice a1 (y).length c1 :: ints (T1)) 62 := mp
              replace hR : RowsT Hl12 88 5 a1 y := hR
              replace hc1 : y.length ≤ c1 := hc1
              replace hna1 : a1 = none → c1 = 0 := hna1
              replace hty : Tots y T1 := hty
              replace hQ8_1 : RowsT Hl12 74 5 a8_1 (ldB L L.length) := hQ8_1
              replace m0_0 : Blk Hl12 b0_0 [.int .i64 x0, .int .i64 x1, .int .i64 x2, .int .i64 x3] 23 := m0_0
              replace hX : Ext H Hl12 := hX
              obtain ⟨sb, so, hse⟩ := (hS.ext hX).at'
              show XC _ _ _ (upds σ [(2, .slice sa s.length sc), (4, .pointer (some ⟨b0_0, 0, none⟩)), (7, .pointer (some ⟨bp, 0, none⟩)), (9, .slice a8_1 (ldB L L.length).length c8_1), (10, .int .i64 (i : Nat))]) _
              refine xc_seq ?_
              refine xc_seq ?_
              refine xc_region ?_
              refine xl_pure rfl rfl rfl (pv_move (v := .int _ _) rfl rfl) ?_
              refine xl_pure rfl rfl rfl (pv_move (v := .slice _ _ _) rfl rfl) ?_
              refine xl_pure rfl rfl rfl (pv_len_l rfl rfl) ?_
              refine xl_dec rfl rfl rfl (pv_lss rfl rfl rfl) (fun h12_3 => ?_) (fun h12_3 => ?_)
              · skip
                refine xl_nil ?_
                refine xthen_normal ?_
                refine xc_cond_t rfl ?_
                refine xc_skip ?_
                refine xthen_normal ?_
                refine xc_seq ?_
                refine xc_block ?_
                refine xc_seq ?_
                have hsO := stksO_new hS hX gbp.le
                have htk := hb.take hgo (bck_start hgo h9_4).1 (show i < s.length by omega)
                refine xp_start rfl (by repeat (first | with_reducible exact np_fin | with_reducible exact np_ret | with_reducible refine np_then ?_ | with_reducible refine np_block ?_)) (by kernel_rfl) ?_
                refine xp_pure (i := 0) rfl (by kernel_rfl) (by kernel_rfl) rfl rfl rfl (pv_move (v := .pointer _) rfl rfl) ?_
                refine xp_pure (i := 1) rfl (by kernel_rfl) (by kernel_rfl) rfl rfl rfl (pv_fieldAddr rfl rfl) ?_
                refine xp_light (i := 2) rfl (by kernel_rfl) (by kernel_rfl) rfl rfl rfl (lv_load (v := .int _ _) rfl rfl (ld_blk m0_0 rfl)) ?_
                refine xp_pure (i := 3) rfl (by kernel_rfl) (by kernel_rfl) rfl rfl rfl (pv_fieldAddr rfl rfl) ?_
                refine xp_light (i := 4) rfl (by kernel_rfl) (by kernel_rfl) rfl rfl rfl (lv_load (v := .int _ _) rfl rfl (ld_blk m0_0 rfl)) ?_
                refine xp_pure (i := 5) rfl (by kernel_rfl) (by kernel_rfl) rfl rfl rfl (pv_fieldAddr rfl rfl) ?_
                refine xp_light (i := 6) rfl (by kernel_rfl) (by kernel_rfl) rfl rfl rfl (lv_load (v := .int _ _) rfl rfl (ld_blk m0_0 rfl)) ?_
                refine xp_pure (i := 7) rfl (by kernel_rfl) (by kernel_rfl) rfl rfl rfl (pv_move (v := .slice _ _ _) rfl rfl) ?_
                refine xp_pure (i := 8) rfl (by kernel_rfl) (by kernel_rfl) rfl rfl rfl (pv_move (v := .int _ _) rfl rfl) ?_
                refine xp_pure (i := 9) rfl (by kernel_rfl) (by kernel_rfl) rfl rfl rfl (pv_indexAddr_l rfl (sl_eq (hse (by omega)).1) rfl (by omega)) ?_
                refine xp_pure (i := 10) rfl (by kernel_rfl) (by kernel_rfl) rfl rfl rfl (pv_fieldAddr rfl rfl) ?_
                refine xp_light (i := 11) rfl (by kernel_rfl) (by kernel_rfl) rfl rfl rfl (lv_load (v := .int _ _) rfl rfl (by first | exact ((hse (by omega)).2 i (by omega)).1 | exact cellAt_but ((hse (by omega)).2 i (by omega)).1 hB14_18 (hsO.off sb so (hse (by omega)).1 (by omega)))) ?_
                refine xp_pure (i := 12) rfl (by kernel_rfl) (by kernel_rfl) rfl rfl rfl (pv_build_s (cs := [.int _ _, .int _ _, .int _ _, .int _ _]) rfl rfl rfl) ?_
                refine xp_pure (i := 13) rfl (by kernel_rfl) (by kernel_rfl) rfl rfl rfl (pv_move (v := .slice _ _ _) rfl rfl) ?_
                refine xp_pure (i := 14) rfl (by kernel_rfl) (by kernel_rfl) rfl rfl rfl (pv_move (v := .int _ _) rfl rfl) ?_
                refine xp_pure (i := 15) rfl (by kernel_rfl) (by kernel_rfl) rfl rfl rfl (pv_indexAddr_l rfl (sl_eq (hse (by omega)).1) rfl (by omega)) ?_
                refine xp_pure (i := 16) rfl (by kernel_rfl) (by kernel_rfl) rfl rfl rfl (pv_fieldAddr rfl rfl) ?_
                refine xp_light (i := 17) rfl (by kernel_rfl) (by kernel_rfl) rfl rfl rfl (lv_load (v := .int _ _) rfl rfl (by first | exact ((hse (by omega)).2 i (by omega)).2 | exact cellAt_but ((hse (by omega)).2 i (by omega)).2 hB14_18 (hsO.off sb so (hse (by omega)).1 (by omega)))) ?_
                refine xp_heavy (i := 18) (by kernel_rfl) ?_
                refine xph_val rfl rfl rfl rfl (hv_call (g := 17) rfl rfl (c17 mp hR hc1 hna1 (by omega) hb.goo hty x0 x1 x2 (gx s i) (gq s i)) rfl) (pd (by kernel_rfl) (pk (by kernel_rfl) (pk (by kernel_rfl) (pk (by kernel_rfl) (pk (by kernel_rfl) pn))))) ?_
                rintro v14_18 H14_18 ⟨a14_18, c14_18, T14_18, rfl, hB14_18, hT14_18, hR14_18, hc14_18, hna14_18, ht14_18⟩
                have m0_0 := m0_0.off hB14_18 (by first | exact nm0_0_mp | exact ⟨m0_0.ne mp rfl⟩ | exact ⟨m0_0.ne mp (by assumption)⟩ | exact ⟨Ne.symm (mp.ne m0_0 (by assumption))⟩)
                have hR := hR.offT mp hB14_18 (by first | rfl | assumption)
                have hQ8_1 := hQ8_1.offT mp hB14_18 (by first | rfl | assumption)
                have hX := hX.upd hB14_18 gbp
                have mp := hT14_18
                refine ⟨(okc (lv_load (v := .int _ _) rfl rfl (by first | exact ((hse (by omega)).2 i (by omega)).1 | exact cellAt_but ((hse (by omega)).2 i (by omega)).1 hB14_18 (hsO.off sb so (hse (by omega)).1 (by omega)))) (okc (lv_load (v := .int _ _) rfl rfl (ld_blk m0_0 rfl)) (okc (lv_load (v := .int _ _) rfl rfl (ld_blk m0_0 rfl)) (okc (lv_load (v := .int _ _) rfl rfl (ld_blk m0_0 rfl)) okn)))), ?_⟩
                refine xp_ndec (i := 19) rfl (by kernel_rfl) (by kernel_rfl) rfl rfl rfl (pv_neq rfl rfl rfl) (fun h14_19 => ?_) (fun h14_19 => ?_)
                · skip
                  refine xp_done (by kernel_rfl) ?_
                  refine xthen_normal ?_
                  refine xc_cond_f rfl ?_
                  refine xc_skip ?_
                  refine xblock_normal ?_
                  refine xthen_normal ?_
                  refine xc_region ?_
                  refine xl_pure rfl rfl rfl (pv_move (v := .int _ _) rfl rfl) ?_
                  refine xl_pure rfl rfl rfl (pv_add rfl rfl rfl (fit_i64 (by omega))) ?_
                  refine xl_pure rfl rfl rfl (pv_assign (v := .int _ _) rfl rfl) ?_
                  refine xl_nil ?_
                  refine xthen_normal ?_
                  exact ⟨(i + 1, _, _, _, _), ⟨rfl, rfl, rfl, rfl, rfl, trivial⟩, ⟨by (try simp only); omega, htk.2, Nat.le_trans (goo_tak hb.goo rfl).2 (by omega), mp, hR14_18, hc14_18, hna14_18, ht14_18, hQ8_1, m0_0, hX⟩, by (try simp only); omega⟩
                · exact absurd htk.1 h14_19
              · skip
                refine xl_nil ?_
                refine xthen_normal ?_
                refine xc_cond_f rfl ?_
                refine xc_exit ?_
                refine xthen_exit ?_
                refine xthen_exit ?_
                refine xblock_same ?_
                refine xthen_normal ?_
                refine xc_seq ?_
                obtain rfl : i = s.length := by omega
                refine xc_region ?_
                refine xl_pure rfl rfl rfl (pv_move (v := .pointer _) rfl rfl) ?_
                refine xl_heavy rfl rfl rfl (hv_call (g := 12) rfl rfl (c12 mp hR hc1 hna1 (by omega)) rfl) ?_
                rintro v16_1 H16_1 ⟨a16_1, c16_1, rfl, hQ16_1, hE16_1⟩
                have m0_0 := m0_0.ext hE16_1
                have mp := mp.ext hE16_1
                have hR := hR.ext hE16_1
                have hQ8_1 := hQ8_1.ext hE16_1
                have hX := hX.trans hE16_1
                refine xl_pure rfl rfl rfl (pv_move (v := .slice _ _ _) rfl rfl) ?_
                refine xl_heavy rfl rfl rfl (hv_call (g := 16) rfl rfl (c16 (y) ((ldB L L.length)) _ _ _ _ hQ16_1.rows hQ8_1.rows (by omega)) rfl) ?_
                rintro v16_3 H16_3 ⟨r16_3, rfl, hb16_3, rfl⟩
                obtain rfl : r16_3 = true := hb16_3.2 (hb.done hgo)
                refine xl_pure rfl rfl rfl (pv_move (v := .bool _) rfl rfl) ?_
                refine xl_heavy rfl rfl rfl (hv_call (g := 7) rfl rfl (c7) rfl) ?_
                rintro v16_5 H16_5 ⟨rfl, hE16_5⟩
                have m0_0 := m0_0.ext hE16_5
                have mp := mp.ext hE16_5
                have hR := hR.ext hE16_5
                have hQ8_1 := hQ8_1.ext hE16_5
                have hQ16_1 := hQ16_1.ext hE16_5
                have hX := hX.trans hE16_5
                refine xl_pure rfl rfl rfl (pv_pick_t (v := .bool _) rfl rfl rfl) ?_
                refine xl_pure rfl rfl rfl (pv_assign (v := .bool _) rfl rfl) ?_
                refine xl_nil ?_
                refine xthen_normal ?_
                refine xc_ret ?_
                refine fin_ret (res1 (v := .bool _) rfl rfl) ?_
                exact ⟨rfl, hX⟩
          · skip
            refine xl_nil ?_
            refine xthen_normal ?_
            refine xc_cond_t rfl ?_
            refine xc_seq ?_
            refine xc_region ?_
            refine xl_pure rfl rfl rfl (pv_move (v := .pointer _) rfl rfl) ?_
            refine xl_heavy rfl rfl rfl (hv_call (g := 12) rfl rfl (c12 mp hR9_3 hc9_3 hna9_3 (by have := (goo_all (d := true) (k0 := x0) (k1 := x1) (k2 := x2) (s := s) hgo).2; omega)) rfl) ?_
            rintro v10_1 H10_1 ⟨a10_1, c10_1, rfl, hQ10_1, hE10_1⟩
            have m0_0 := m0_0.ext hE10_1
            have mp := mp.ext hE10_1
            have hR := hR.ext hE10_1
            have hQ8_1 := hQ8_1.ext hE10_1
            have hR9_3 := hR9_3.ext hE10_1
            have hX := hX.trans hE10_1
            refine xl_pure rfl rfl rfl (pv_move (v := .slice _ _ _) rfl rfl) ?_
            refine xl_heavy rfl rfl rfl (hv_call (g := 16) rfl rfl (c16 ((allX true (ldB L L.length) x0 x1 x2 s)) ((ldB L L.length)) _ _ _ _ hQ10_1.rows hQ8_1.rows (by have := (goo_all (d := true) (k0 := x0) (k1 := x1) (k2 := x2) (s := s) hgo).2; omega)) rfl) ?_
            rintro v10_3 H10_3 ⟨r10_3, rfl, hb10_3, rfl⟩
            obtain rfl : r10_3 = true := hb10_3.2 (all_stay h9_4)
            refine xl_pure rfl rfl rfl (pv_move (v := .bool _) rfl rfl) ?_
            refine xl_heavy rfl rfl rfl (hv_call (g := 7) rfl rfl (c7) rfl) ?_
            rintro v10_5 H10_5 ⟨rfl, hE10_5⟩
            have m0_0 := m0_0.ext hE10_5
            have mp := mp.ext hE10_5
            have hR := hR.ext hE10_5
            have hQ8_1 := hQ8_1.ext hE10_5
            have hR9_3 := hR9_3.ext hE10_5
            have hQ10_1 := hQ10_1.ext hE10_5
            have hX := hX.trans hE10_5
            refine xl_pure rfl rfl rfl (pv_pick_t (v := .bool _) rfl rfl rfl) ?_
            refine xl_pure rfl rfl rfl (pv_assign (v := .bool _) rfl rfl) ?_
            refine xl_nil ?_
            refine xthen_normal ?_
            refine xc_ret ?_
            refine xthen_ret ?_
            refine fin_ret (res1 (v := .bool _) rfl rfl) ?_
            exact ⟨rfl, hX⟩
        · exact absurd rfl h4_1
      · skip
        refine xl_pure rfl rfl rfl (pv_move (v := .tuple _) rfl rfl) ?_
        refine xl_pure rfl rfl rfl (pv_extract (v := .pointer _) rfl rfl rfl) ?_
        refine xl_pure rfl rfl rfl (pv_extract (v := .int _ _) rfl rfl rfl) ?_
        refine xl_pure rfl rfl rfl (pv_assign (v := .pointer _) rfl rfl) ?_
        refine xl_pure rfl rfl rfl (pv_assign (v := .int _ _) rfl rfl) ?_
        refine xl_nil ?_
        refine xthen_normal ?_
        refine xc_seq ?_
        refine xc_seq ?_
        refine xc_region ?_
        refine xl_pure rfl rfl rfl (pv_move (v := .int _ _) rfl rfl) ?_
        refine xl_ndec rfl rfl rfl (pv_neq rfl rfl rfl) (fun h4_1 => ?_) (fun h4_1 => ?_)
        · exact absurd h4_1 hne
        · skip
          refine xl_nil ?_
          refine xthen_normal ?_
          refine xc_cond_t rfl ?_
          refine xc_seq ?_
          refine xc_region ?_
          refine xl_pure rfl rfl rfl (pv_move (v := .pointer _) rfl rfl) ?_
          refine xl_pure rfl rfl rfl (pv_eql_nn rfl rfl rfl) ?_
          refine xl_pure rfl rfl rfl (pv_move (v := .bool _) rfl rfl) ?_
          refine xl_heavy rfl rfl rfl (hv_call (g := 7) rfl rfl (c7) rfl) ?_
          rintro v5_3 H5_3 ⟨rfl, hE5_3⟩
          have m0_0 := m0_0.ext hE5_3
          have hX := hX.trans hE5_3
          refine xl_pure rfl rfl rfl (pv_pick_t (v := .bool _) rfl rfl rfl) ?_
          refine xl_pure rfl rfl rfl (pv_assign (v := .bool _) rfl rfl) ?_
          refine xl_nil ?_
          refine xthen_normal ?_
          refine xc_ret ?_
          refine xthen_ret ?_
          refine fin_ret (res1 (v := .bool _) rfl rfl) ?_
          exact ⟨rfl, hX⟩
end Go.XG
