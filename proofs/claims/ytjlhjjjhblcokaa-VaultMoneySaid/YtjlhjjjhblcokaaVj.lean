/-
  Walks of the seat's functions over the logic XG: each function, what it computes. Printed by a program out of wip/walks.py.
-/
import Derived.Test.YtjlhjjjhblcokaaI
import Derived.Test.YtjlhjjjhblcokaaXs
import Derived.Test.YtjlhjjjhblcokaaTo
import Derived.Test.YtjlhjjjhblcokaaTa
import Derived.Test.YtjlhjjjhblcokaaTb
import Derived.Test.YtjlhjjjhblcokaaKb
import Derived.Test.YtjlhjjjhblcokaaBa
import Derived.Test.YtjlhjjjhblcokaaBb
import Derived.Test.YtjlhjjjhblcokaaBc
import Derived.Test.YtjlhjjjhblcokaaKp
import Derived.Test.YtjlhjjjhblcokaaUa
import Derived.Test.YtjlhjjjhblcokaaKv
import Derived.Test.YtjlhjjjhblcokaaXw
import Derived.Test.YtjlhjjjhblcokaaVa
import Derived.Test.YtjlhjjjhblcokaaVb
import Derived.Test.YtjlhjjjhblcokaaVc
import Derived.Test.YtjlhjjjhblcokaaVd
import Derived.Test.YtjlhjjjhblcokaaUb
import Derived.Test.YtjlhjjjhblcokaaUc
import Derived.Test.YtjlhjjjhblcokaaVi
import Derived.Test.YtjlhjjjhblcokaaKw
namespace Go.XG.Pu
open Go.Proofs
set_option maxRecDepth 20000
set_option maxHeartbeats 4000000
theorem c5 {O : Outer} {H : Heap} {al : Option Addr} {cl : Nat} {L : List (List Int)} (hL : Rows H al 2 L) {aA : Option Addr} {cA : Nat} {A : List PAct} (hA : PActs H aA A) :
    FnC Try.prog 5 #[.slice al L.length cl, .slice aA A.length cA] O H (fun v H' => v = .bool true ∧ Ext H H') := by
  refine fn_enter (A := [.slice al L.length cl, .slice aA A.length cA]) Try.func5 rfl rfl ?_
  have hX := Ext.refl H
  refine xc_seq ?_
  refine xc_region ?_
  refine xl_pure rfl rfl rfl (pv_assign (v := .bool _) rfl rfl) ?_
  refine xl_nil ?_
  refine xthen_normal ?_
  refine xc_seq ?_
  refine xc_seq ?_
  refine xc_region ?_
  refine xl_pure rfl rfl rfl (pv_move (v := .slice _ _ _) rfl rfl) ?_
  refine xl_pure rfl rfl rfl (pv_len_l rfl rfl) ?_
  refine xl_dec rfl rfl rfl (pv_gtr rfl rfl rfl) (fun h1_2 => ?_) (fun h1_2 => ?_)
  · skip
    refine xl_pure rfl rfl rfl (pv_move (v := .bool _) rfl rfl) ?_
    refine xl_skip rfl rfl rfl ?_
    refine xl_skip rfl rfl rfl ?_
    refine xl_skip rfl rfl rfl ?_
    refine xl_pure rfl rfl rfl (pv_pick_t (v := .bool _) rfl rfl rfl) ?_
    refine xl_nil ?_
    refine xthen_normal ?_
    refine xc_cond_t rfl ?_
    refine xc_seq ?_
    refine xc_region ?_
    refine xl_heavy rfl rfl rfl (hv_call (g := 11) rfl rfl (c11) rfl) ?_
    rintro v2_0 H2_0 ⟨rfl, hE2_0⟩
    have hX := hX.trans hE2_0
    refine xl_pure rfl rfl rfl (pv_assign (v := .bool _) rfl rfl) ?_
    refine xl_nil ?_
    refine xthen_normal ?_
    refine xc_ret ?_
    refine xthen_ret ?_
    refine fin_ret (res1 (v := .bool _) rfl rfl) ?_
    exact ⟨rfl, hX⟩
  · skip
    refine xl_pure rfl rfl rfl (pv_move (v := .bool _) rfl rfl) ?_
    refine xl_pure rfl rfl rfl (pv_move (v := .slice _ _ _) rfl rfl) ?_
    refine xl_pure rfl rfl rfl (pv_len_l rfl rfl) ?_
    refine xl_dec rfl rfl rfl (pv_gtr rfl rfl rfl) (fun h1_6 => ?_) (fun h1_6 => ?_)
    · skip
      refine xl_pure rfl rfl rfl (pv_pick_f (v := .bool _) rfl rfl rfl) ?_
      refine xl_nil ?_
      refine xthen_normal ?_
      refine xc_cond_t rfl ?_
      refine xc_seq ?_
      refine xc_region ?_
      refine xl_heavy rfl rfl rfl (hv_call (g := 11) rfl rfl (c11) rfl) ?_
      rintro v2_0 H2_0 ⟨rfl, hE2_0⟩
      have hX := hX.trans hE2_0
      refine xl_pure rfl rfl rfl (pv_assign (v := .bool _) rfl rfl) ?_
      refine xl_nil ?_
      refine xthen_normal ?_
      refine xc_ret ?_
      refine xthen_ret ?_
      refine fin_ret (res1 (v := .bool _) rfl rfl) ?_
      exact ⟨rfl, hX⟩
    · skip
      refine xl_pure rfl rfl rfl (pv_pick_f (v := .bool _) rfl rfl rfl) ?_
      refine xl_nil ?_
      refine xthen_normal ?_
      refine xc_cond_f rfl ?_
      refine xc_skip ?_
      refine xthen_normal ?_
      refine xc_seq ?_
      have hX0 := hX
      refine xc_region ?_
      refine xl_pure rfl rfl rfl (pv_move (v := .slice _ _ _) rfl rfl) ?_
      refine xl_heavy rfl rfl rfl (hv_call (g := 25) rfl rfl (c25 (hL.ext hX) (by omega)) rfl) ?_
      rintro v3_1 H3_1 ⟨e3_1, hl3_1, hv3_1, hE3_1⟩
      have hX := hX.trans hE3_1
      rcases hv3_1 with ⟨rfl, ⟨bp, a, c, rfl, gbp, mp, hR, hc, hna⟩, hgo⟩ | ⟨hne, rfl⟩
      · skip
        have gbp : Fresh H bp := ⟨Nat.le_trans hX0.size gbp.le⟩
        have hyl := (lds_ok (L := L) (Nat.le_refl _) (by rcases hl3_1 with ⟨h, _⟩ | h; exact absurd h (by decide); exact h.1)).2.2.2.2
        have hyt : (tb (lds L L.length)).length < 900000 := by rw [tb_len]; omega
        refine xl_pure rfl rfl rfl (pv_move (v := .tuple _) rfl rfl) ?_
        refine xl_pure rfl rfl rfl (pv_extract (v := .pointer _) rfl rfl rfl) ?_
        refine xl_pure rfl rfl rfl (pv_extract (v := .int _ _) rfl rfl rfl) ?_
        refine xl_pure rfl rfl rfl (pv_assign (v := .pointer _) rfl rfl) ?_
        refine xl_pure rfl rfl rfl (pv_assign (v := .int _ _) rfl rfl) ?_
        refine xl_nil ?_
        refine xthen_normal ?_
        refine xc_seq ?_
        refine xc_region ?_
        refine xl_pure rfl rfl rfl (pv_move (v := .slice _ _ _) rfl rfl) ?_
        refine xl_heavy rfl rfl rfl (hv_call (g := 26) rfl rfl (c26 (hL.ext hX) (by omega)) rfl) ?_
        rintro v4_1 H4_1 ⟨e4_1, hl4_1, hv4_1, hE4_1⟩
        have mp := mp.ext hE4_1
        have hR := hR.ext hE4_1
        have hX := hX.trans hE4_1
        have he4_1 := hl4_1.uniq hl3_1
        rw [he4_1] at hv4_1
        obtain ⟨a9, c9, rfl, hQ, hc9⟩ : ∃ a' c', v4_1 = .tuple #[.slice a' (lds L L.length).length c', .int .i64 0] ∧ RowsT H4_1 122 2 a' (lds L L.length) ∧ (lds L L.length).length ≤ c' := by rcases hv4_1 with ⟨_, h⟩ | ⟨h, _⟩; exact h; exact absurd rfl h
        refine xl_pure rfl rfl rfl (pv_move (v := .tuple _) rfl rfl) ?_
        refine xl_pure rfl rfl rfl (pv_extract (v := .slice _ _ _) rfl rfl rfl) ?_
        refine xl_pure rfl rfl rfl (pv_extract (v := .int _ _) rfl rfl rfl) ?_
        refine xl_pure rfl rfl rfl (pv_assign (v := .slice _ _ _) rfl rfl) ?_
        refine xl_pure rfl rfl rfl (pv_assign (v := .int _ _) rfl rfl) ?_
        refine xl_nil ?_
        refine xthen_normal ?_
        refine xc_seq ?_
        refine xc_seq ?_
        refine xc_region ?_
        refine xl_pure rfl rfl rfl (pv_move (v := .int _ _) rfl rfl) ?_
        refine xl_pure rfl rfl rfl (pv_move (v := .int _ _) rfl rfl) ?_
        refine xl_ndec rfl rfl rfl (pv_neq rfl rfl rfl) (fun h5_2 => ?_) (fun h5_2 => ?_)
        · skip
          refine xl_pure rfl rfl rfl (pv_move (v := .bool _) rfl rfl) ?_
          refine xl_pure rfl rfl rfl (pv_move (v := .pointer _) rfl rfl) ?_
          refine xl_pure rfl rfl rfl (pv_neq_pn rfl rfl rfl) ?_
          refine xl_pure rfl rfl rfl (pv_move (v := .int _ _) rfl rfl) ?_
          refine xl_dec rfl rfl rfl (pv_eql rfl rfl rfl) (fun h5_7 => ?_) (fun h5_7 => ?_)
          · skip
            refine xl_pure rfl rfl rfl (pv_neq_b rfl rfl rfl) ?_
            refine xl_pure rfl rfl rfl (pv_pick_f (v := .bool _) rfl rfl rfl) ?_
            refine xl_nil ?_
            refine xthen_normal ?_
            refine xc_cond_f rfl ?_
            refine xc_skip ?_
            refine xthen_normal ?_
            refine xc_seq ?_
            refine xc_seq ?_
            refine xc_region ?_
            refine xl_pure rfl rfl rfl (pv_assign (v := .int _ _) rfl rfl) ?_
            refine xl_nil ?_
            refine xthen_normal ?_
            refine xc_block ?_
            refine xc_loop (τ := Nat × Option Addr × Nat × Option Addr × Nat) (fun t => [(1, .slice aA A.length cA), (5, .pointer (some ⟨bp, 0, none⟩)), (6, .int .i64 0), (7, .slice t.2.2.2.1 (past (lds L L.length) A t.1).length t.2.2.2.2), (9, .int .i64 (t.1 : Nat))]) (fun t H' => (t.1 ≤ A.length) ∧ (Blk H' bp [.slice t.2.1 (tb (past (lds L L.length) A t.1)).length t.2.2.1, .int .i64 (tot (past (lds L L.length) A t.1))] 92) ∧ (RowsT H' 138 5 t.2.1 (tb (past (lds L L.length) A t.1))) ∧ ((tb (past (lds L L.length) A t.1)).length ≤ t.2.2.1) ∧ (t.2.1 = none → t.2.2.1 = 0) ∧ (RowsT H' 122 2 t.2.2.2.1 (past (lds L L.length) A t.1)) ∧ ((past (lds L L.length) A t.1).length ≤ t.2.2.2.2) ∧ (Ext H H')) (fun t H' => A.length - t.1) (0, a, c, a9, c9) ?_ ?_ ?_
            · exact ⟨rfl, rfl, rfl, rfl, rfl, trivial⟩
            · skip
              exact ⟨Nat.zero_le _, mp, hR, hc, hna, hQ, hc9, hX⟩
            · intro σ
              clear hX mp hR hQ
              rintro ⟨i, a1, c1, a2, c2⟩ Hl8 ⟨hi, mp, hR, hc1, hna1, hQ, hc2, hX⟩
              replace hi : i ≤ A.length := hi
              replace mp : Blk Hl8 bp [.slice a1 (tb (past (lds L L.length) A i)).length c1, .int .i64 (tot (past (lds L L.length) A i))] 92 := mp
              replace hR : RowsT Hl8 138 5 a1 (tb (past (lds L L.length) A i)) := hR
              replace hc1 : (tb (past (lds L L.length) A i)).length ≤ c1 := hc1
              replace hna1 : a1 = none → c1 = 0 := hna1
              replace hQ : RowsT Hl8 122 2 a2 (past (lds L L.length) A i) := hQ
              replace hc2 : (past (lds L L.length) A i).length ≤ c2 := hc2
              replace hX : Ext H Hl8 := hX
              obtain ⟨hgi, hli⟩ := goo_past (A := A) hgo i
              obtain ⟨hgn, hln⟩ := goo_pst (r := gP A i) hgi
              have hlt : (tb (past (lds L L.length) A i)).length < 900000 := by rw [tb_len]; omega
              have hltn : (tb (pstX (past (lds L L.length) A i) (gP A i))).length < 1000000 := by rw [tb_len]; omega
              obtain ⟨bl, ofl, hAe⟩ := (hA.ext hX).at'
              show XC _ _ _ (upds σ [(1, .slice aA A.length cA), (5, .pointer (some ⟨bp, 0, none⟩)), (6, .int .i64 0), (7, .slice a2 (past (lds L L.length) A i).length c2), (9, .int .i64 (i : Nat))]) _
              refine xc_seq ?_
              refine xc_seq ?_
              refine xc_region ?_
              refine xl_pure rfl rfl rfl (pv_move (v := .int _ _) rfl rfl) ?_
              refine xl_pure rfl rfl rfl (pv_move (v := .slice _ _ _) rfl rfl) ?_
              refine xl_pure rfl rfl rfl (pv_len_l rfl rfl) ?_
              refine xl_dec rfl rfl rfl (pv_lss rfl rfl rfl) (fun h8_3 => ?_) (fun h8_3 => ?_)
              · skip
                refine xl_pure rfl rfl rfl (pv_move (v := .bool _) rfl rfl) ?_
                refine xl_pure rfl rfl rfl (pv_move (v := .int _ _) rfl rfl) ?_
                refine xl_dec rfl rfl rfl (pv_eql rfl rfl rfl) (fun h8_6 => ?_) (fun h8_6 => ?_)
                · skip
                  refine xl_pure rfl rfl rfl (pv_pick_t (v := .bool _) rfl rfl rfl) ?_
                  refine xl_nil ?_
                  refine xthen_normal ?_
                  refine xc_cond_t rfl ?_
                  refine xc_skip ?_
                  refine xthen_normal ?_
                  refine xc_seq ?_
                  refine xc_block ?_
                  refine xc_seq ?_
                  refine xc_region ?_
                  refine xl_pure rfl rfl rfl (pv_move (v := .slice _ _ _) rfl rfl) ?_
                  refine xl_pure rfl rfl rfl (pv_move (v := .int _ _) rfl rfl) ?_
                  refine xl_pure rfl rfl rfl (pv_indexAddr_l rfl (sl_eq (hAe (by omega)).1) rfl (by omega)) ?_
                  refine xl_light rfl rfl rfl (lv_load (v := .agg _) rfl rfl (by exact ld_pact (hAe (by omega)).2 (by omega))) ?_
                  refine xl_heavy rfl rfl rfl (hv_alloc rfl rfl) ?_
                  rintro v10_4 H10_4 ⟨b10_4, rfl, hN10_4⟩
                  have gb10_4 := hX.fresh hN10_4
                  have nmp_10_4 := mp.apart hN10_4
                  have mp := mp.ext hN10_4.ext
                  have hR := hR.ext hN10_4.ext
                  have hQ := hQ.ext hN10_4.ext
                  have hX := hX.trans hN10_4.ext
                  have m10_4 := hN10_4.blk
                  refine xl_store rfl rfl (hv_storeA (vs := (pcs (gP A i))) rfl rfl rfl (m10_4) rfl (by rfl) rfl) ?_
                  rintro v10_5 H10_5 ⟨hU10_5, hZ10_5⟩
                  have mp := mp.off hU10_5.but (by first | exact nmp_10_4 | exact ⟨mp.ne m10_4 rfl⟩ | exact ⟨mp.ne m10_4 (by assumption)⟩ | exact ⟨Ne.symm (m10_4.ne mp (by assumption))⟩)
                  have hR := hR.offT m10_4 hU10_5.but (by first | rfl | assumption)
                  have hQ := hQ.offT m10_4 hU10_5.but (by first | rfl | assumption)
                  have hX := hX.upd hU10_5.but gb10_4
                  have m10_4 := hU10_5.blk
                  refine xl_nil ?_
                  refine xthen_normal ?_
                  refine xc_seq ?_
                  refine xc_seq ?_
                  refine xc_region ?_
                  refine xl_pure rfl rfl rfl (pv_fieldAddr rfl rfl) ?_
                  refine xl_light rfl rfl rfl (lv_load (v := .slice _ _ _) rfl rfl (ld_blk m10_4 rfl)) ?_
                  refine xl_pure rfl rfl rfl (pv_len_l rfl rfl) ?_
                  refine xl_dec rfl rfl rfl (pv_gtr rfl rfl rfl) (fun h11_3 => ?_) (fun h11_3 => ?_)
                  · skip
                    refine xl_nil ?_
                    refine xthen_normal ?_
                    refine xc_cond_t rfl ?_
                    refine xc_seq ?_
                    refine xc_region ?_
                    refine xl_heavy rfl rfl rfl (hv_call (g := 11) rfl rfl (c11) rfl) ?_
                    rintro v12_0 H12_0 ⟨rfl, hE12_0⟩
                    have mp := mp.ext hE12_0
                    have hR := hR.ext hE12_0
                    have hQ := hQ.ext hE12_0
                    have m10_4 := m10_4.ext hE12_0
                    have hX := hX.trans hE12_0
                    refine xl_pure rfl rfl rfl (pv_assign (v := .bool _) rfl rfl) ?_
                    refine xl_nil ?_
                    refine xthen_normal ?_
                    refine xc_ret ?_
                    refine xthen_ret ?_
                    refine xblock_ret ?_
                    refine xthen_ret ?_
                    refine xthen_ret ?_
                    refine xblock_ret ?_
                    refine xthen_ret ?_
                    refine fin_ret (res1 (v := .bool _) rfl rfl) ?_
                    exact ⟨rfl, hX⟩
                  · skip
                    refine xl_nil ?_
                    refine xthen_normal ?_
                    refine xc_cond_f rfl ?_
                    refine xc_skip ?_
                    refine xthen_normal ?_
                    refine xc_seq ?_
                    refine xc_region ?_
                    refine xl_pure rfl rfl rfl (pv_assign (v := .slice _ _ _) rfl rfl) ?_
                    refine xl_nil ?_
                    refine xthen_normal ?_
                    refine xc_seq ?_
                    refine xc_region ?_
                    refine xl_pure rfl rfl rfl (pv_assign (v := .int _ _) rfl rfl) ?_
                    refine xl_pure rfl rfl rfl (pv_assign (v := .int _ _) rfl rfl) ?_
                    refine xl_nil ?_
                    refine xthen_normal ?_
                    refine xc_seq ?_
                    refine xc_seq ?_
                    refine xc_region ?_
                    refine xl_pure rfl rfl rfl (pv_fieldAddr rfl rfl) ?_
                    refine xl_light rfl rfl rfl (lv_load (v := .bool _) rfl rfl (ld_blk m10_4 rfl)) ?_
                    rcases ho : (gP A i).out with _ | _
                    · skip
                      refine xl_nil ?_
                      refine xthen_normal ?_
                      refine xc_cond_f rfl ?_
                      refine xc_seq ?_
                      refine xc_region ?_
                      refine xl_pure rfl rfl rfl (pv_move (v := .pointer _) rfl rfl) ?_
                      refine xl_pure rfl rfl rfl (pv_fieldAddr rfl rfl) ?_
                      refine xl_light rfl rfl rfl (lv_load (v := .int _ _) rfl rfl (ld_blk m10_4 rfl)) ?_
                      refine xl_pure rfl rfl rfl (pv_fieldAddr rfl rfl) ?_
                      refine xl_light rfl rfl rfl (lv_load (v := .int _ _) rfl rfl (ld_blk m10_4 rfl)) ?_
                      refine xl_pure rfl rfl rfl (pv_fieldAddr rfl rfl) ?_
                      refine xl_light rfl rfl rfl (lv_load (v := .int _ _) rfl rfl (ld_blk m10_4 rfl)) ?_
                      refine xl_heavy rfl rfl rfl (hv_call (g := 29) rfl rfl (c29 mp hR hc1 hna1 hlt hgi (gP A i).f (gP A i).i (gP A i).n) rfl) ?_
                      rintro v18_7 H18_7 ⟨a18_7, c18_7, hv18_7, hB18_7, hT18_7, hR18_7, hc18_7, hna18_7⟩
                      have hR := hR.offT mp hB18_7 (by first | rfl | assumption)
                      have hQ := hQ.offT mp hB18_7 (by first | rfl | assumption)
                      have m10_4 := m10_4.off hB18_7 (by first | exact nmp_10_4.symm | exact ⟨m10_4.ne mp rfl⟩ | exact ⟨m10_4.ne mp (by assumption)⟩ | exact ⟨Ne.symm (mp.ne m10_4 (by assumption))⟩)
                      have hX := hX.upd hB18_7 gbp
                      have mp := hT18_7
                      obtain ⟨e1, e2⟩ := pst_f (x := (past (lds L L.length) A i)) ho
                      rw [← e1] at hv18_7
                      rw [← e2] at mp hR18_7 hc18_7
                      subst hv18_7
                      refine xl_pure rfl rfl rfl (pv_assign (v := .int _ _) rfl rfl) ?_
                      refine xl_nil ?_
                      refine xthen_normal ?_
                      refine xc_region ?_
                      refine xl_pure rfl rfl rfl (pv_move (v := .slice _ _ _) rfl rfl) ?_
                      refine xl_pure rfl rfl rfl (pv_fieldAddr rfl rfl) ?_
                      refine xl_light rfl rfl rfl (lv_load (v := .int _ _) rfl rfl (ld_blk m10_4 rfl)) ?_
                      refine xl_pure rfl rfl rfl (pv_fieldAddr rfl rfl) ?_
                      refine xl_light rfl rfl rfl (lv_load (v := .int _ _) rfl rfl (ld_blk m10_4 rfl)) ?_
                      refine xl_pure rfl rfl rfl (pv_fieldAddr rfl rfl) ?_
                      refine xl_light rfl rfl rfl (lv_load (v := .int _ _) rfl rfl (ld_blk m10_4 rfl)) ?_
                      refine xl_heavy rfl rfl rfl (hv_call (g := 30) rfl rfl (c30 hQ hgi (by omega) hc2 (gP A i).f (gP A i).i (gP A i).n) rfl) ?_
                      rintro v19_7 H19_7 ⟨a19_7, c19_7, hv19_7, hQ19_7, hc19_7, hE19_7⟩
                      have mp := mp.ext hE19_7
                      have hR := hR.ext hE19_7
                      have hQ := hQ.ext hE19_7
                      have m10_4 := m10_4.ext hE19_7
                      have hR18_7 := hR18_7.ext hE19_7
                      have hX := hX.trans hE19_7
                      rw [← e1, ← e2] at hv19_7
                      rw [← e2] at hQ19_7 hc19_7
                      subst hv19_7
                      refine xl_pure rfl rfl rfl (pv_move (v := .tuple _) rfl rfl) ?_
                      refine xl_pure rfl rfl rfl (pv_extract (v := .slice _ _ _) rfl rfl rfl) ?_
                      refine xl_pure rfl rfl rfl (pv_extract (v := .int _ _) rfl rfl rfl) ?_
                      refine xl_pure rfl rfl rfl (pv_assign (v := .slice _ _ _) rfl rfl) ?_
                      refine xl_pure rfl rfl rfl (pv_assign (v := .int _ _) rfl rfl) ?_
                      refine xl_nil ?_
                      refine xthen_normal ?_
                      refine xc_seq ?_
                      refine xc_seq ?_
                      refine xp_start rfl (by repeat (first | with_reducible exact np_fin | with_reducible exact np_ret | with_reducible refine np_then ?_ | with_reducible refine np_block ?_)) (by kernel_rfl) ?_
                      refine xp_pure (i := 0) rfl (by kernel_rfl) (by kernel_rfl) rfl rfl rfl (pv_move (v := .int _ _) rfl rfl) ?_
                      refine xp_pure (i := 1) rfl (by kernel_rfl) (by kernel_rfl) rfl rfl rfl (pv_move (v := .int _ _) rfl rfl) ?_
                      refine xp_ndec (i := 2) rfl (by kernel_rfl) (by kernel_rfl) rfl rfl rfl (pv_neq rfl rfl rfl) (fun h20_2 => ?_) (fun h20_2 => ?_)
                      · skip
                        refine xp_pure (i := 3) rfl (by kernel_rfl) (by kernel_rfl) rfl rfl rfl (pv_move (v := .bool _) rfl rfl) ?_
                        refine xp_pure (i := 4) rfl (by kernel_rfl) (by kernel_rfl) rfl rfl rfl (pv_move (v := .pointer _) rfl rfl) ?_
                        refine xp_pure (i := 6) rfl (by kernel_rfl) (by kernel_rfl) rfl rfl rfl (pv_move (v := .slice _ _ _) rfl rfl) ?_
                        refine xp_heavy (i := 5) (by kernel_rfl) ?_
                        refine xph_val rfl rfl rfl rfl (hv_call (g := 32) rfl rfl (c32 mp hR18_7 hc18_7 hna18_7 hltn hgn) rfl) pn ?_
                        rintro v20_5 H20_5 ⟨a20_5, c20_5, rfl, hQ20_5, hE20_5⟩
                        have mp := mp.ext hE20_5
                        have hR := hR.ext hE20_5
                        have hQ := hQ.ext hE20_5
                        have m10_4 := m10_4.ext hE20_5
                        have hR18_7 := hR18_7.ext hE20_5
                        have hQ19_7 := hQ19_7.ext hE20_5
                        have hX := hX.trans hE20_5
                        refine ⟨okn, ?_⟩
                        refine xp_heavy (i := 7) (by kernel_rfl) ?_
                        refine xph_val rfl rfl rfl rfl (hv_call (g := 31) rfl rfl (c31 (pstX (past (lds L L.length) A i) (gP A i)) (pstX (past (lds L L.length) A i) (gP A i)) _ _ _ _ hQ20_5.rows hQ19_7.rows (by omega)) rfl) pn ?_
                        rintro v20_7 H20_7 ⟨r20_7, rfl, hb20_7, rfl⟩
                        obtain rfl : r20_7 = true := hb20_7.2 rfl
                        refine ⟨okn, ?_⟩
                        refine xp_pure (i := 8) rfl (by kernel_rfl) (by kernel_rfl) rfl rfl rfl (pv_not rfl rfl) ?_
                        refine xp_pure (i := 9) rfl (by kernel_rfl) (by kernel_rfl) rfl rfl rfl (pv_pick_f (v := .bool _) rfl rfl rfl) ?_
                        refine xp_pure (i := 10) rfl (by kernel_rfl) (by kernel_rfl) rfl rfl rfl (pv_move (v := .bool _) rfl rfl) ?_
                        refine xp_pure (i := 11) rfl (by kernel_rfl) (by kernel_rfl) rfl rfl rfl (pv_move (v := .pointer _) rfl rfl) ?_
                        refine xp_pure (i := 12) rfl (by kernel_rfl) (by kernel_rfl) rfl rfl rfl (pv_fieldAddr rfl rfl) ?_
                        refine xp_light (i := 13) rfl (by kernel_rfl) (by kernel_rfl) rfl rfl rfl (lv_load (v := .int _ _) rfl rfl (ld_blk m10_4 rfl)) ?_
                        refine xp_pure (i := 15) rfl (by kernel_rfl) (by kernel_rfl) rfl rfl rfl (pv_move (v := .slice _ _ _) rfl rfl) ?_
                        refine xp_pure (i := 16) rfl (by kernel_rfl) (by kernel_rfl) rfl rfl rfl (pv_fieldAddr rfl rfl) ?_
                        refine xp_light (i := 17) rfl (by kernel_rfl) (by kernel_rfl) rfl rfl rfl (lv_load (v := .int _ _) rfl rfl (ld_blk m10_4 rfl)) ?_
                        refine xp_heavy (i := 14) (by kernel_rfl) ?_
                        refine xph_val rfl rfl rfl rfl (hv_call (g := 33) rfl rfl (c33 mp hR18_7 hc18_7 hna18_7 hltn hgn (gP A i).i) rfl) (pk (by kernel_rfl) (pd (by kernel_rfl) pn)) ?_
                        rintro v20_14 H20_14 ⟨rfl, hE20_14⟩
                        have mp := mp.ext hE20_14
                        have hR := hR.ext hE20_14
                        have hQ := hQ.ext hE20_14
                        have m10_4 := m10_4.ext hE20_14
                        have hR18_7 := hR18_7.ext hE20_14
                        have hQ19_7 := hQ19_7.ext hE20_14
                        have hQ20_5 := hQ20_5.ext hE20_14
                        have hX := hX.trans hE20_14
                        refine ⟨(okc (lv_load (v := .int _ _) rfl rfl (ld_blk m10_4 rfl)) okn), ?_⟩
                        refine xp_heavy (i := 18) (by kernel_rfl) ?_
                        refine xph_val rfl rfl rfl rfl (hv_call (g := 34) rfl rfl (c34 hQ19_7 hgn (by omega) hc19_7 (gP A i).i) rfl) (pd (by kernel_rfl) pn) ?_
                        rintro v20_18 H20_18 ⟨rfl, hE20_18⟩
                        have mp := mp.ext hE20_18
                        have hR := hR.ext hE20_18
                        have hQ := hQ.ext hE20_18
                        have m10_4 := m10_4.ext hE20_18
                        have hR18_7 := hR18_7.ext hE20_18
                        have hQ19_7 := hQ19_7.ext hE20_18
                        have hQ20_5 := hQ20_5.ext hE20_18
                        have hX := hX.trans hE20_18
                        refine ⟨okn, ?_⟩
                        refine xp_ndec (i := 19) rfl (by kernel_rfl) (by kernel_rfl) rfl rfl rfl (pv_neq rfl rfl rfl) (fun h20_19 => ?_) (fun h20_19 => ?_)
                        · skip
                          refine xp_pure (i := 20) rfl (by kernel_rfl) (by kernel_rfl) rfl rfl rfl (pv_pick_f (v := .bool _) rfl rfl rfl) ?_
                          refine xp_pure (i := 21) rfl (by kernel_rfl) (by kernel_rfl) rfl rfl rfl (pv_move (v := .bool _) rfl rfl) ?_
                          refine xp_pure (i := 22) rfl (by kernel_rfl) (by kernel_rfl) rfl rfl rfl (pv_move (v := .pointer _) rfl rfl) ?_
                          refine xp_pure (i := 24) rfl (by kernel_rfl) (by kernel_rfl) rfl rfl rfl (pv_move (v := .slice _ _ _) rfl rfl) ?_
                          refine xp_heavy (i := 23) (by kernel_rfl) ?_
                          refine xph_val rfl rfl rfl rfl (hv_call (g := 35) rfl rfl (c35 (x := (pstX (past (lds L L.length) A i) (gP A i))) mp) rfl) pn ?_
                          rintro v20_23 H20_23 ⟨rfl, rfl⟩
                          refine ⟨okn, ?_⟩
                          refine xp_heavy (i := 25) (by kernel_rfl) ?_
                          refine xph_val rfl rfl rfl rfl (hv_call (g := 36) rfl rfl (c36 hQ19_7 hgn (by omega)) rfl) pn ?_
                          rintro v20_25 H20_25 ⟨rfl, rfl⟩
                          refine ⟨okn, ?_⟩
                          refine xp_ndec (i := 26) rfl (by kernel_rfl) (by kernel_rfl) rfl rfl rfl (pv_neq rfl rfl rfl) (fun h20_26 => ?_) (fun h20_26 => ?_)
                          · skip
                            refine xp_pure (i := 27) rfl (by kernel_rfl) (by kernel_rfl) rfl rfl rfl (pv_pick_f (v := .bool _) rfl rfl rfl) ?_
                            refine xp_done (by kernel_rfl) ?_
                            refine xthen_normal ?_
                            refine xc_cond_f rfl ?_
                            refine xc_skip ?_
                            refine xthen_normal ?_
                            refine xc_region ?_
                            refine xl_pure rfl rfl rfl (pv_move (v := .slice _ _ _) rfl rfl) ?_
                            refine xl_pure rfl rfl rfl (pv_assign (v := .slice _ _ _) rfl rfl) ?_
                            refine xl_nil ?_
                            refine xblock_normal ?_
                            refine xthen_normal ?_
                            refine xc_region ?_
                            refine xl_pure rfl rfl rfl (pv_move (v := .int _ _) rfl rfl) ?_
                            refine xl_pure rfl rfl rfl (pv_add rfl rfl rfl (fit_i64 (by omega))) ?_
                            refine xl_pure rfl rfl rfl (pv_assign (v := .int _ _) rfl rfl) ?_
                            refine xl_nil ?_
                            refine xthen_normal ?_
                            first
                              | exact ⟨(i + 1, _, _, _, _), ⟨rfl, rfl, rfl, rfl, rfl, trivial⟩, ⟨by (try simp only); omega, mp, hR16_5, hc16_5, hna16_5, hQ17_5, hc17_5, hX⟩, by (try simp only); omega⟩
                              | exact ⟨(i + 1, _, _, _, _), ⟨rfl, rfl, rfl, rfl, rfl, trivial⟩, ⟨by (try simp only); omega, mp, hR18_7, hc18_7, hna18_7, hQ19_7, hc19_7, hX⟩, by (try simp only); omega⟩
                          · exact absurd rfl h20_26
                        · exact absurd rfl h20_19
                      · exact absurd rfl h20_2
                    · skip
                      refine xl_nil ?_
                      refine xthen_normal ?_
                      refine xc_cond_t rfl ?_
                      refine xc_seq ?_
                      refine xc_region ?_
                      refine xl_pure rfl rfl rfl (pv_move (v := .pointer _) rfl rfl) ?_
                      refine xl_pure rfl rfl rfl (pv_fieldAddr rfl rfl) ?_
                      refine xl_light rfl rfl rfl (lv_load (v := .int _ _) rfl rfl (ld_blk m10_4 rfl)) ?_
                      refine xl_pure rfl rfl rfl (pv_fieldAddr rfl rfl) ?_
                      refine xl_light rfl rfl rfl (lv_load (v := .slice _ _ _) rfl rfl (ld_blk m10_4 rfl)) ?_
                      refine xl_heavy rfl rfl rfl (hv_call (g := 27) rfl rfl (c27 mp hR hc1 hna1 (by omega) hgi (gP A i).i (rowsO_new (hA.rows (show i < A.length by omega)) (by decide) hX gbp.le) (by omega)) rfl) ?_
                      rintro v16_5 H16_5 ⟨a16_5, c16_5, hv16_5, hB16_5, hT16_5, hR16_5, hc16_5, hna16_5⟩
                      have hR := hR.offT mp hB16_5 (by first | rfl | assumption)
                      have hQ := hQ.offT mp hB16_5 (by first | rfl | assumption)
                      have m10_4 := m10_4.off hB16_5 (by first | exact nmp_10_4.symm | exact ⟨m10_4.ne mp rfl⟩ | exact ⟨m10_4.ne mp (by assumption)⟩ | exact ⟨Ne.symm (mp.ne m10_4 (by assumption))⟩)
                      have hX := hX.upd hB16_5 gbp
                      have mp := hT16_5
                      obtain ⟨e1, e2⟩ := pst_t (x := (past (lds L L.length) A i)) ho
                      rw [← e1] at hv16_5
                      rw [← e2] at mp hR16_5 hc16_5
                      subst hv16_5
                      refine xl_pure rfl rfl rfl (pv_assign (v := .int _ _) rfl rfl) ?_
                      refine xl_nil ?_
                      refine xthen_normal ?_
                      refine xc_region ?_
                      refine xl_pure rfl rfl rfl (pv_move (v := .slice _ _ _) rfl rfl) ?_
                      refine xl_pure rfl rfl rfl (pv_fieldAddr rfl rfl) ?_
                      refine xl_light rfl rfl rfl (lv_load (v := .int _ _) rfl rfl (ld_blk m10_4 rfl)) ?_
                      refine xl_pure rfl rfl rfl (pv_fieldAddr rfl rfl) ?_
                      refine xl_light rfl rfl rfl (lv_load (v := .slice _ _ _) rfl rfl (ld_blk m10_4 rfl)) ?_
                      refine xl_heavy rfl rfl rfl (hv_call (g := 28) rfl rfl (c28 hQ hgi (by omega) hc2 (gP A i).i ((hA.rows (show i < A.length by omega)).ext hX) (by omega)) rfl) ?_
                      rintro v17_5 H17_5 ⟨a17_5, c17_5, hv17_5, hQ17_5, hc17_5, hE17_5⟩
                      have mp := mp.ext hE17_5
                      have hR := hR.ext hE17_5
                      have hQ := hQ.ext hE17_5
                      have m10_4 := m10_4.ext hE17_5
                      have hR16_5 := hR16_5.ext hE17_5
                      have hX := hX.trans hE17_5
                      rw [← e1, ← e2] at hv17_5
                      rw [← e2] at hQ17_5 hc17_5
                      subst hv17_5
                      refine xl_pure rfl rfl rfl (pv_move (v := .tuple _) rfl rfl) ?_
                      refine xl_pure rfl rfl rfl (pv_extract (v := .slice _ _ _) rfl rfl rfl) ?_
                      refine xl_pure rfl rfl rfl (pv_extract (v := .int _ _) rfl rfl rfl) ?_
                      refine xl_pure rfl rfl rfl (pv_assign (v := .slice _ _ _) rfl rfl) ?_
                      refine xl_pure rfl rfl rfl (pv_assign (v := .int _ _) rfl rfl) ?_
                      refine xl_nil ?_
                      refine xthen_normal ?_
                      refine xc_seq ?_
                      refine xc_seq ?_
                      refine xp_start rfl (by repeat (first | with_reducible exact np_fin | with_reducible exact np_ret | with_reducible refine np_then ?_ | with_reducible refine np_block ?_)) (by kernel_rfl) ?_
                      refine xp_pure (i := 0) rfl (by kernel_rfl) (by kernel_rfl) rfl rfl rfl (pv_move (v := .int _ _) rfl rfl) ?_
                      refine xp_pure (i := 1) rfl (by kernel_rfl) (by kernel_rfl) rfl rfl rfl (pv_move (v := .int _ _) rfl rfl) ?_
                      refine xp_ndec (i := 2) rfl (by kernel_rfl) (by kernel_rfl) rfl rfl rfl (pv_neq rfl rfl rfl) (fun h20_2 => ?_) (fun h20_2 => ?_)
                      · skip
                        refine xp_pure (i := 3) rfl (by kernel_rfl) (by kernel_rfl) rfl rfl rfl (pv_move (v := .bool _) rfl rfl) ?_
                        refine xp_pure (i := 4) rfl (by kernel_rfl) (by kernel_rfl) rfl rfl rfl (pv_move (v := .pointer _) rfl rfl) ?_
                        refine xp_pure (i := 6) rfl (by kernel_rfl) (by kernel_rfl) rfl rfl rfl (pv_move (v := .slice _ _ _) rfl rfl) ?_
                        refine xp_heavy (i := 5) (by kernel_rfl) ?_
                        refine xph_val rfl rfl rfl rfl (hv_call (g := 32) rfl rfl (c32 mp hR16_5 hc16_5 hna16_5 hltn hgn) rfl) pn ?_
                        rintro v20_5 H20_5 ⟨a20_5, c20_5, rfl, hQ20_5, hE20_5⟩
                        have mp := mp.ext hE20_5
                        have hR := hR.ext hE20_5
                        have hQ := hQ.ext hE20_5
                        have m10_4 := m10_4.ext hE20_5
                        have hR16_5 := hR16_5.ext hE20_5
                        have hQ17_5 := hQ17_5.ext hE20_5
                        have hX := hX.trans hE20_5
                        refine ⟨okn, ?_⟩
                        refine xp_heavy (i := 7) (by kernel_rfl) ?_
                        refine xph_val rfl rfl rfl rfl (hv_call (g := 31) rfl rfl (c31 (pstX (past (lds L L.length) A i) (gP A i)) (pstX (past (lds L L.length) A i) (gP A i)) _ _ _ _ hQ20_5.rows hQ17_5.rows (by omega)) rfl) pn ?_
                        rintro v20_7 H20_7 ⟨r20_7, rfl, hb20_7, rfl⟩
                        obtain rfl : r20_7 = true := hb20_7.2 rfl
                        refine ⟨okn, ?_⟩
                        refine xp_pure (i := 8) rfl (by kernel_rfl) (by kernel_rfl) rfl rfl rfl (pv_not rfl rfl) ?_
                        refine xp_pure (i := 9) rfl (by kernel_rfl) (by kernel_rfl) rfl rfl rfl (pv_pick_f (v := .bool _) rfl rfl rfl) ?_
                        refine xp_pure (i := 10) rfl (by kernel_rfl) (by kernel_rfl) rfl rfl rfl (pv_move (v := .bool _) rfl rfl) ?_
                        refine xp_pure (i := 11) rfl (by kernel_rfl) (by kernel_rfl) rfl rfl rfl (pv_move (v := .pointer _) rfl rfl) ?_
                        refine xp_pure (i := 12) rfl (by kernel_rfl) (by kernel_rfl) rfl rfl rfl (pv_fieldAddr rfl rfl) ?_
                        refine xp_light (i := 13) rfl (by kernel_rfl) (by kernel_rfl) rfl rfl rfl (lv_load (v := .int _ _) rfl rfl (ld_blk m10_4 rfl)) ?_
                        refine xp_pure (i := 15) rfl (by kernel_rfl) (by kernel_rfl) rfl rfl rfl (pv_move (v := .slice _ _ _) rfl rfl) ?_
                        refine xp_pure (i := 16) rfl (by kernel_rfl) (by kernel_rfl) rfl rfl rfl (pv_fieldAddr rfl rfl) ?_
                        refine xp_light (i := 17) rfl (by kernel_rfl) (by kernel_rfl) rfl rfl rfl (lv_load (v := .int _ _) rfl rfl (ld_blk m10_4 rfl)) ?_
                        refine xp_heavy (i := 14) (by kernel_rfl) ?_
                        refine xph_val rfl rfl rfl rfl (hv_call (g := 33) rfl rfl (c33 mp hR16_5 hc16_5 hna16_5 hltn hgn (gP A i).i) rfl) (pk (by kernel_rfl) (pd (by kernel_rfl) pn)) ?_
                        rintro v20_14 H20_14 ⟨rfl, hE20_14⟩
                        have mp := mp.ext hE20_14
                        have hR := hR.ext hE20_14
                        have hQ := hQ.ext hE20_14
                        have m10_4 := m10_4.ext hE20_14
                        have hR16_5 := hR16_5.ext hE20_14
                        have hQ17_5 := hQ17_5.ext hE20_14
                        have hQ20_5 := hQ20_5.ext hE20_14
                        have hX := hX.trans hE20_14
                        refine ⟨(okc (lv_load (v := .int _ _) rfl rfl (ld_blk m10_4 rfl)) okn), ?_⟩
                        refine xp_heavy (i := 18) (by kernel_rfl) ?_
                        refine xph_val rfl rfl rfl rfl (hv_call (g := 34) rfl rfl (c34 hQ17_5 hgn (by omega) hc17_5 (gP A i).i) rfl) (pd (by kernel_rfl) pn) ?_
                        rintro v20_18 H20_18 ⟨rfl, hE20_18⟩
                        have mp := mp.ext hE20_18
                        have hR := hR.ext hE20_18
                        have hQ := hQ.ext hE20_18
                        have m10_4 := m10_4.ext hE20_18
                        have hR16_5 := hR16_5.ext hE20_18
                        have hQ17_5 := hQ17_5.ext hE20_18
                        have hQ20_5 := hQ20_5.ext hE20_18
                        have hX := hX.trans hE20_18
                        refine ⟨okn, ?_⟩
                        refine xp_ndec (i := 19) rfl (by kernel_rfl) (by kernel_rfl) rfl rfl rfl (pv_neq rfl rfl rfl) (fun h20_19 => ?_) (fun h20_19 => ?_)
                        · skip
                          refine xp_pure (i := 20) rfl (by kernel_rfl) (by kernel_rfl) rfl rfl rfl (pv_pick_f (v := .bool _) rfl rfl rfl) ?_
                          refine xp_pure (i := 21) rfl (by kernel_rfl) (by kernel_rfl) rfl rfl rfl (pv_move (v := .bool _) rfl rfl) ?_
                          refine xp_pure (i := 22) rfl (by kernel_rfl) (by kernel_rfl) rfl rfl rfl (pv_move (v := .pointer _) rfl rfl) ?_
                          refine xp_pure (i := 24) rfl (by kernel_rfl) (by kernel_rfl) rfl rfl rfl (pv_move (v := .slice _ _ _) rfl rfl) ?_
                          refine xp_heavy (i := 23) (by kernel_rfl) ?_
                          refine xph_val rfl rfl rfl rfl (hv_call (g := 35) rfl rfl (c35 (x := (pstX (past (lds L L.length) A i) (gP A i))) mp) rfl) pn ?_
                          rintro v20_23 H20_23 ⟨rfl, rfl⟩
                          refine ⟨okn, ?_⟩
                          refine xp_heavy (i := 25) (by kernel_rfl) ?_
                          refine xph_val rfl rfl rfl rfl (hv_call (g := 36) rfl rfl (c36 hQ17_5 hgn (by omega)) rfl) pn ?_
                          rintro v20_25 H20_25 ⟨rfl, rfl⟩
                          refine ⟨okn, ?_⟩
                          refine xp_ndec (i := 26) rfl (by kernel_rfl) (by kernel_rfl) rfl rfl rfl (pv_neq rfl rfl rfl) (fun h20_26 => ?_) (fun h20_26 => ?_)
                          · skip
                            refine xp_pure (i := 27) rfl (by kernel_rfl) (by kernel_rfl) rfl rfl rfl (pv_pick_f (v := .bool _) rfl rfl rfl) ?_
                            refine xp_done (by kernel_rfl) ?_
                            refine xthen_normal ?_
                            refine xc_cond_f rfl ?_
                            refine xc_skip ?_
                            refine xthen_normal ?_
                            refine xc_region ?_
                            refine xl_pure rfl rfl rfl (pv_move (v := .slice _ _ _) rfl rfl) ?_
                            refine xl_pure rfl rfl rfl (pv_assign (v := .slice _ _ _) rfl rfl) ?_
                            refine xl_nil ?_
                            refine xblock_normal ?_
                            refine xthen_normal ?_
                            refine xc_region ?_
                            refine xl_pure rfl rfl rfl (pv_move (v := .int _ _) rfl rfl) ?_
                            refine xl_pure rfl rfl rfl (pv_add rfl rfl rfl (fit_i64 (by omega))) ?_
                            refine xl_pure rfl rfl rfl (pv_assign (v := .int _ _) rfl rfl) ?_
                            refine xl_nil ?_
                            refine xthen_normal ?_
                            first
                              | exact ⟨(i + 1, _, _, _, _), ⟨rfl, rfl, rfl, rfl, rfl, trivial⟩, ⟨by (try simp only); omega, mp, hR16_5, hc16_5, hna16_5, hQ17_5, hc17_5, hX⟩, by (try simp only); omega⟩
                              | exact ⟨(i + 1, _, _, _, _), ⟨rfl, rfl, rfl, rfl, rfl, trivial⟩, ⟨by (try simp only); omega, mp, hR18_7, hc18_7, hna18_7, hQ19_7, hc19_7, hX⟩, by (try simp only); omega⟩
                          · exact absurd rfl h20_26
                        · exact absurd rfl h20_19
                      · exact absurd rfl h20_2
                · exact absurd rfl h8_6
              · skip
                refine xl_pure rfl rfl rfl (pv_move (v := .bool _) rfl rfl) ?_
                refine xl_skip rfl rfl rfl ?_
                refine xl_skip rfl rfl rfl ?_
                refine xl_pure rfl rfl rfl (pv_pick_f (v := .bool _) rfl rfl rfl) ?_
                refine xl_nil ?_
                refine xthen_normal ?_
                refine xc_cond_f rfl ?_
                refine xc_exit ?_
                refine xthen_exit ?_
                refine xthen_exit ?_
                refine xblock_same ?_
                refine xthen_normal ?_
                refine xc_seq ?_
                refine xc_region ?_
                refine xl_heavy rfl rfl rfl (hv_call (g := 11) rfl rfl (c11) rfl) ?_
                rintro v23_0 H23_0 ⟨rfl, hE23_0⟩
                have mp := mp.ext hE23_0
                have hR := hR.ext hE23_0
                have hQ := hQ.ext hE23_0
                have hX := hX.trans hE23_0
                refine xl_pure rfl rfl rfl (pv_assign (v := .bool _) rfl rfl) ?_
                refine xl_nil ?_
                refine xthen_normal ?_
                refine xc_ret ?_
                refine fin_ret (res1 (v := .bool _) rfl rfl) ?_
                exact ⟨rfl, hX⟩
          · exact absurd rfl h5_7
        · exact absurd rfl h5_2
      · skip
        refine xl_pure rfl rfl rfl (pv_move (v := .tuple _) rfl rfl) ?_
        refine xl_pure rfl rfl rfl (pv_extract (v := .pointer _) rfl rfl rfl) ?_
        refine xl_pure rfl rfl rfl (pv_extract (v := .int _ _) rfl rfl rfl) ?_
        refine xl_pure rfl rfl rfl (pv_assign (v := .pointer _) rfl rfl) ?_
        refine xl_pure rfl rfl rfl (pv_assign (v := .int _ _) rfl rfl) ?_
        refine xl_nil ?_
        refine xthen_normal ?_
        refine xc_seq ?_
        refine xc_region ?_
        refine xl_pure rfl rfl rfl (pv_move (v := .slice _ _ _) rfl rfl) ?_
        refine xl_heavy rfl rfl rfl (hv_call (g := 26) rfl rfl (c26 (hL.ext hX) (by omega)) rfl) ?_
        rintro v4_1 H4_1 ⟨e4_1, hl4_1, hv4_1, hE4_1⟩
        have hX := hX.trans hE4_1
        have he4_1 := hl4_1.uniq hl3_1
        rw [he4_1] at hv4_1
        obtain rfl : v4_1 = .tuple #[.slice none 0 0, .int .i64 e3_1] := by rcases hv4_1 with ⟨h, _⟩ | ⟨_, h⟩; exact absurd h hne; exact h
        refine xl_pure rfl rfl rfl (pv_move (v := .tuple _) rfl rfl) ?_
        refine xl_pure rfl rfl rfl (pv_extract (v := .slice _ _ _) rfl rfl rfl) ?_
        refine xl_pure rfl rfl rfl (pv_extract (v := .int _ _) rfl rfl rfl) ?_
        refine xl_pure rfl rfl rfl (pv_assign (v := .slice _ _ _) rfl rfl) ?_
        refine xl_pure rfl rfl rfl (pv_assign (v := .int _ _) rfl rfl) ?_
        refine xl_nil ?_
        refine xthen_normal ?_
        refine xc_seq ?_
        refine xc_seq ?_
        refine xc_region ?_
        refine xl_pure rfl rfl rfl (pv_move (v := .int _ _) rfl rfl) ?_
        refine xl_pure rfl rfl rfl (pv_move (v := .int _ _) rfl rfl) ?_
        refine xl_ndec rfl rfl rfl (pv_neq rfl rfl rfl) (fun h5_2 => ?_) (fun h5_2 => ?_)
        · skip
          refine xl_pure rfl rfl rfl (pv_move (v := .bool _) rfl rfl) ?_
          refine xl_pure rfl rfl rfl (pv_move (v := .pointer _) rfl rfl) ?_
          refine xl_pure rfl rfl rfl (pv_neq_nn rfl rfl rfl) ?_
          refine xl_pure rfl rfl rfl (pv_move (v := .int _ _) rfl rfl) ?_
          refine xl_dec rfl rfl rfl (pv_eql rfl rfl rfl) (fun h5_7 => ?_) (fun h5_7 => ?_)
          · exact absurd h5_7 hne
          · skip
            refine xl_pure rfl rfl rfl (pv_neq_b rfl rfl rfl) ?_
            refine xl_pure rfl rfl rfl (pv_pick_f (v := .bool _) rfl rfl rfl) ?_
            refine xl_nil ?_
            refine xthen_normal ?_
            refine xc_cond_f rfl ?_
            refine xc_skip ?_
            refine xthen_normal ?_
            refine xc_seq ?_
            refine xc_seq ?_
            refine xc_region ?_
            refine xl_pure rfl rfl rfl (pv_assign (v := .int _ _) rfl rfl) ?_
            refine xl_nil ?_
            refine xthen_normal ?_
            refine xc_block ?_
            refine xc_loop (τ := Unit) (fun t => [(1, .slice aA A.length cA), (5, .pointer none), (6, .int .i64 e3_1), (7, .slice none 0 0), (9, .int .i64 0)]) (fun t H' => (True) ∧ (Ext H H')) (fun t H' => 0) () ?_ ?_ ?_
            · exact ⟨rfl, rfl, rfl, rfl, rfl, trivial⟩
            · skip
              exact ⟨trivial, hX⟩
            · intro σ
              clear hX
              rintro t Hl8 ⟨hT, hX⟩
              replace hT : True := hT
              replace hX : Ext H Hl8 := hX
              show XC _ _ _ (upds σ [(1, .slice aA A.length cA), (5, .pointer none), (6, .int .i64 e3_1), (7, .slice none 0 0), (9, .int .i64 0)]) _
              refine xc_seq ?_
              refine xc_seq ?_
              refine xc_region ?_
              refine xl_pure rfl rfl rfl (pv_move (v := .int _ _) rfl rfl) ?_
              refine xl_pure rfl rfl rfl (pv_move (v := .slice _ _ _) rfl rfl) ?_
              refine xl_pure rfl rfl rfl (pv_len_l rfl rfl) ?_
              refine xl_dec rfl rfl rfl (pv_lss rfl rfl rfl) (fun h8_3 => ?_) (fun h8_3 => ?_)
              · skip
                refine xl_pure rfl rfl rfl (pv_move (v := .bool _) rfl rfl) ?_
                refine xl_pure rfl rfl rfl (pv_move (v := .int _ _) rfl rfl) ?_
                refine xl_dec rfl rfl rfl (pv_eql rfl rfl rfl) (fun h8_6 => ?_) (fun h8_6 => ?_)
                · exact absurd h8_6 hne
                · skip
                  refine xl_pure rfl rfl rfl (pv_pick_t (v := .bool _) rfl rfl rfl) ?_
                  refine xl_nil ?_
                  refine xthen_normal ?_
                  refine xc_cond_f rfl ?_
                  refine xc_exit ?_
                  refine xthen_exit ?_
                  refine xthen_exit ?_
                  refine xblock_same ?_
                  refine xthen_normal ?_
                  refine xc_seq ?_
                  refine xc_region ?_
                  refine xl_heavy rfl rfl rfl (hv_call (g := 11) rfl rfl (c11) rfl) ?_
                  rintro v23_0 H23_0 ⟨rfl, hE23_0⟩
                  have hX := hX.trans hE23_0
                  refine xl_pure rfl rfl rfl (pv_assign (v := .bool _) rfl rfl) ?_
                  refine xl_nil ?_
                  refine xthen_normal ?_
                  refine xc_ret ?_
                  refine fin_ret (res1 (v := .bool _) rfl rfl) ?_
                  exact ⟨rfl, hX⟩
              · skip
                refine xl_pure rfl rfl rfl (pv_move (v := .bool _) rfl rfl) ?_
                refine xl_skip rfl rfl rfl ?_
                refine xl_skip rfl rfl rfl ?_
                refine xl_pure rfl rfl rfl (pv_pick_f (v := .bool _) rfl rfl rfl) ?_
                refine xl_nil ?_
                refine xthen_normal ?_
                refine xc_cond_f rfl ?_
                refine xc_exit ?_
                refine xthen_exit ?_
                refine xthen_exit ?_
                refine xblock_same ?_
                refine xthen_normal ?_
                refine xc_seq ?_
                refine xc_region ?_
                refine xl_heavy rfl rfl rfl (hv_call (g := 11) rfl rfl (c11) rfl) ?_
                rintro v23_0 H23_0 ⟨rfl, hE23_0⟩
                have hX := hX.trans hE23_0
                refine xl_pure rfl rfl rfl (pv_assign (v := .bool _) rfl rfl) ?_
                refine xl_nil ?_
                refine xthen_normal ?_
                refine xc_ret ?_
                refine fin_ret (res1 (v := .bool _) rfl rfl) ?_
                exact ⟨rfl, hX⟩
        · exact absurd rfl h5_2
end Go.XG.Pu
