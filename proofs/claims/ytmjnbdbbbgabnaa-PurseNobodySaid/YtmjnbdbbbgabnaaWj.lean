/-
  Walks of the seat's functions over the logic XG: each function, what it computes. Printed by a program out of wip/walks.py.
-/
import Derived.Test.YtmjnbdbbbgabnaaI
import Derived.Test.YtmjnbdbbbgabnaaTm
import Derived.Test.YtmjnbdbbbgabnaaTa
import Derived.Test.YtmjnbdbbbgabnaaTb
import Derived.Test.YtmjnbdbbbgabnaaTd
import Derived.Test.YtmjnbdbbbgabnaaTc
import Derived.Test.YtmjnbdbbbgabnaaP
import Derived.Test.YtmjnbdbbbgabnaaWa
import Derived.Test.YtmjnbdbbbgabnaaWb
import Derived.Test.YtmjnbdbbbgabnaaWc
import Derived.Test.YtmjnbdbbbgabnaaQ
import Derived.Test.YtmjnbdbbbgabnaaTo
import Derived.Test.YtmjnbdbbbgabnaaWd
import Derived.Test.YtmjnbdbbbgabnaaWe
import Derived.Test.YtmjnbdbbbgabnaaWf
import Derived.Test.YtmjnbdbbbgabnaaWg
import Derived.Test.YtmjnbdbbbgabnaaWh
import Derived.Test.YtmjnbdbbbgabnaaWi
namespace Go.XG
open Go.Proofs
set_option maxRecDepth 4000
set_option maxHeartbeats 4000000
theorem c4 {O : Outer} {H : Heap} {al : Option Addr} {cl : Nat} {L : List (List Int)} (hL : Rows H al 2 L) {ap : Option Addr} {cp : Nat} {P : List (List Int)} (hP : Rows H ap 3 P) :
    FnC Try.prog 4 #[.slice al L.length cl, .slice ap P.length cp] O H (fun v H' => v = .bool true ∧ Ext H H') := by
  refine fn_enter (A := [.slice al L.length cl, .slice ap P.length cp]) Try.func4 rfl rfl ?_
  have hX := Ext.refl H
  refine xc_seq ?_
  refine xc_region ?_
  refine xl_pure rfl rfl rfl (pv_assign (v := .bool _) rfl rfl) ?_
  refine xl_nil ?_
  refine xthen_normal ?_
  refine xc_seq ?_
  refine xc_seq ?_
  refine xc_region ?_
  refine xl_pure rfl rfl rfl (pv_move (v := .slice _ _ _) rfl rfl) ?_
  refine xl_pure rfl rfl rfl (pv_len_l rfl rfl) ?_
  refine xl_dec rfl rfl rfl (pv_gtr rfl rfl rfl) (fun h1_2 => ?_) (fun h1_2 => ?_)
  · skip
    refine xl_pure rfl rfl rfl (pv_move (v := .bool _) rfl rfl) ?_
    refine xl_skip rfl rfl rfl ?_
    refine xl_skip rfl rfl rfl ?_
    refine xl_skip rfl rfl rfl ?_
    refine xl_pure rfl rfl rfl (pv_pick_t (v := .bool _) rfl rfl rfl) ?_
    refine xl_nil ?_
    refine xthen_normal ?_
    refine xc_cond_t rfl ?_
    refine xc_seq ?_
    refine xc_region ?_
    refine xl_heavy rfl rfl rfl (hv_call (g := 7) rfl rfl (c7) rfl) ?_
    rintro v2_0 H2_0 ⟨rfl, hE2_0⟩
    have hX := hX.trans hE2_0
    refine xl_pure rfl rfl rfl (pv_assign (v := .bool _) rfl rfl) ?_
    refine xl_nil ?_
    refine xthen_normal ?_
    refine xc_ret ?_
    refine xthen_ret ?_
    refine fin_ret (res1 (v := .bool _) rfl rfl) ?_
    exact ⟨rfl, hX⟩
  · skip
    refine xl_pure rfl rfl rfl (pv_move (v := .bool _) rfl rfl) ?_
    refine xl_pure rfl rfl rfl (pv_move (v := .slice _ _ _) rfl rfl) ?_
    refine xl_pure rfl rfl rfl (pv_len_l rfl rfl) ?_
    refine xl_dec rfl rfl rfl (pv_gtr rfl rfl rfl) (fun h1_6 => ?_) (fun h1_6 => ?_)
    · skip
      refine xl_pure rfl rfl rfl (pv_pick_f (v := .bool _) rfl rfl rfl) ?_
      refine xl_nil ?_
      refine xthen_normal ?_
      refine xc_cond_t rfl ?_
      refine xc_seq ?_
      refine xc_region ?_
      refine xl_heavy rfl rfl rfl (hv_call (g := 7) rfl rfl (c7) rfl) ?_
      rintro v2_0 H2_0 ⟨rfl, hE2_0⟩
      have hX := hX.trans hE2_0
      refine xl_pure rfl rfl rfl (pv_assign (v := .bool _) rfl rfl) ?_
      refine xl_nil ?_
      refine xthen_normal ?_
      refine xc_ret ?_
      refine xthen_ret ?_
      refine fin_ret (res1 (v := .bool _) rfl rfl) ?_
      exact ⟨rfl, hX⟩
    · skip
      refine xl_pure rfl rfl rfl (pv_pick_f (v := .bool _) rfl rfl rfl) ?_
      refine xl_nil ?_
      refine xthen_normal ?_
      refine xc_cond_f rfl ?_
      refine xc_skip ?_
      refine xthen_normal ?_
      refine xc_seq ?_
      refine xc_region ?_
      refine xl_pure rfl rfl rfl (pv_move (v := .slice _ _ _) rfl rfl) ?_
      refine xl_heavy rfl rfl rfl (hv_call (g := 8) rfl rfl (c8 hL (by omega)) rfl) ?_
      rintro v3_1 H3_1 ⟨e3_1, hl3_1, hv3_1, hE3_1⟩
      have hX := hX.trans hE3_1
      rcases hv3_1 with ⟨rfl, ⟨bp, a, c, rfl, gbp, mp, hR, hc, hna⟩, hgo⟩ | ⟨hne, rfl⟩
      · skip
        have hyl := (lds_ok (L := L) (Nat.le_refl _) (by rcases hl3_1 with ⟨h, _⟩ | h; exact absurd h (by decide); exact h.1)).2.2.2.2
        have hyt : (tb (lds L L.length)).length < 1000000 := by rw [tb_len]; omega
        refine xl_pure rfl rfl rfl (pv_move (v := .tuple _) rfl rfl) ?_
        refine xl_pure rfl rfl rfl (pv_extract (v := .pointer _) rfl rfl rfl) ?_
        refine xl_pure rfl rfl rfl (pv_extract (v := .int _ _) rfl rfl rfl) ?_
        refine xl_pure rfl rfl rfl (pv_assign (v := .pointer _) rfl rfl) ?_
        refine xl_pure rfl rfl rfl (pv_assign (v := .int _ _) rfl rfl) ?_
        refine xl_nil ?_
        refine xthen_normal ?_
        refine xc_seq ?_
        refine xc_seq ?_
        refine xc_region ?_
        refine xl_pure rfl rfl rfl (pv_move (v := .int _ _) rfl rfl) ?_
        refine xl_ndec rfl rfl rfl (pv_neq rfl rfl rfl) (fun h4_1 => ?_) (fun h4_1 => ?_)
        · skip
          refine xl_nil ?_
          refine xthen_normal ?_
          refine xc_cond_f rfl ?_
          refine xc_skip ?_
          refine xthen_normal ?_
          refine xc_seq ?_
          refine xc_seq ?_
          refine xc_region ?_
          refine xl_pure rfl rfl rfl (pv_move (v := .pointer _) rfl rfl) ?_
          refine xl_pure rfl rfl rfl (pv_eql_pn rfl rfl rfl) ?_
          refine xl_nil ?_
          refine xthen_normal ?_
          refine xc_cond_f rfl ?_
          refine xc_skip ?_
          refine xthen_normal ?_
          refine xc_seq ?_
          refine xc_region ?_
          refine xl_pure rfl rfl rfl (pv_move (v := .pointer _) rfl rfl) ?_
          refine xl_heavy rfl rfl rfl (hv_call (g := 13) rfl rfl (c13 mp hR hc hna hyt hgo) rfl) ?_
          rintro v8_1 H8_1 ⟨a8_1, c8_1, rfl, hQ8_1, hE8_1⟩
          have mp := mp.ext hE8_1
          have hR := hR.ext hE8_1
          have hX := hX.trans hE8_1
          refine xl_pure rfl rfl rfl (pv_move (v := .pointer _) rfl rfl) ?_
          refine xl_heavy rfl rfl rfl (hv_call (g := 14) rfl rfl (c14 (x := (lds L L.length)) mp) rfl) ?_
          rintro v8_3 H8_3 ⟨rfl, rfl⟩
          refine xl_pure rfl rfl rfl (pv_assign (v := .slice _ _ _) rfl rfl) ?_
          refine xl_pure rfl rfl rfl (pv_assign (v := .int _ _) rfl rfl) ?_
          refine xl_nil ?_
          refine xthen_normal ?_
          refine xc_seq ?_
          refine xc_region ?_
          refine xl_pure rfl rfl rfl (pv_move (v := .pointer _) rfl rfl) ?_
          refine xl_heavy rfl rfl rfl (hv_call (g := 16) rfl rfl (c16 mp hR hc hna hyt hgo) rfl) ?_
          rintro v9_1 H9_1 ⟨b9_1, rfl, m9_1, hF9_1, hE9_1⟩
          have gb9_1 : Fresh H b9_1 := ⟨Nat.le_trans hX.size hF9_1.le⟩
          have nmp_9_1 : Apart bp b9_1 := ⟨Nat.ne_of_lt (Nat.lt_of_lt_of_le mp.lt hF9_1.le)⟩
          have mp := mp.ext hE9_1
          have hR := hR.ext hE9_1
          have hQ8_1 := hQ8_1.ext hE9_1
          have hX := hX.trans hE9_1
          have hR0 := hR
          refine xl_pure rfl rfl rfl (pv_assign (v := .pointer _) rfl rfl) ?_
          refine xl_nil ?_
          refine xthen_normal ?_
          refine xc_seq ?_
          refine xc_seq ?_
          refine xc_region ?_
          refine xl_pure rfl rfl rfl (pv_assign (v := .int _ _) rfl rfl) ?_
          refine xl_nil ?_
          refine xthen_normal ?_
          refine xc_block ?_
          refine xc_loop (τ := Nat × Option Addr × Nat) (fun t => [(1, .slice ap P.length cp), (5, .pointer (some ⟨bp, 0, none⟩)), (7, .slice a8_1 (lds L L.length).length c8_1), (8, .int .i64 (tot (lds L L.length))), (9, .pointer (some ⟨b9_1, 0, none⟩)), (10, .int .i64 (t.1 : Nat))]) (fun t H' => (t.1 ≤ P.length) ∧ (Blk H' bp [.slice t.2.1 (tb (mst (lds L L.length) P t.1)).length t.2.2, .int .i64 (tot (mst (lds L L.length) P t.1))] 56) ∧ (RowsT H' 85 5 t.2.1 (tb (mst (lds L L.length) P t.1))) ∧ ((tb (mst (lds L L.length) P t.1)).length ≤ t.2.2) ∧ (t.2.1 = none → t.2.2 = 0) ∧ (Blk H' b9_1 [.slice a (tb (lds L L.length)).length c, .int .i64 (tot (lds L L.length))] 56) ∧ (RowsT H' 85 5 a (tb (lds L L.length))) ∧ (RowsT H' 60 2 a8_1 (lds L L.length)) ∧ (Ext H H')) (fun t H' => P.length - t.1) (0, a, c) ?_ ?_ ?_
          · exact ⟨rfl, rfl, rfl, rfl, rfl, rfl, trivial⟩
          · skip
            exact ⟨Nat.zero_le _, mp, hR, hc, hna, m9_1, hR0, hQ8_1, hX⟩
          · intro σ
            clear hX mp hR hQ8_1 m9_1 hR0
            rintro ⟨i, a1, c1⟩ Hl11 ⟨hi, mp, hR, hc1, hna1, m9_1, hR0, hQ8_1, hX⟩
            replace hi : i ≤ P.length := hi
            replace mp : Blk Hl11 bp [.slice a1 (tb (mst (lds L L.length) P i)).length c1, .int .i64 (tot (mst (lds L L.length) P i))] 56 := mp
            replace hR : RowsT Hl11 85 5 a1 (tb (mst (lds L L.length) P i)) := hR
            replace hc1 : (tb (mst (lds L L.length) P i)).length ≤ c1 := hc1
            replace hna1 : a1 = none → c1 = 0 := hna1
            replace m9_1 : Blk Hl11 b9_1 [.slice a (tb (lds L L.length)).length c, .int .i64 (tot (lds L L.length))] 56 := m9_1
            replace hR0 : RowsT Hl11 85 5 a (tb (lds L L.length)) := hR0
            replace hQ8_1 : RowsT Hl11 60 2 a8_1 (lds L L.length) := hQ8_1
            replace hX : Ext H Hl11 := hX
            obtain ⟨hgi, hli, hti⟩ := goo_mst (P := P) (i := i) hgo
            obtain ⟨hgn, hln, htn⟩ := goo_move (a := ((gr P i).getD 0 0)) (b := ((gr P i).getD 1 0)) (n := ((gr P i).getD 2 0)) hgi
            have hlt : (tb (mst (lds L L.length) P i)).length < 1000000 := by rw [tb_len]; omega
            have hltn : (tb (moveX (mst (lds L L.length) P i) ((gr P i).getD 0 0) ((gr P i).getD 1 0) ((gr P i).getD 2 0))).length < 1000000 := by rw [tb_len]; omega
            obtain ⟨bl, ofl, hPe⟩ := (hP.ext hX).at'
            show XC _ _ _ (upds σ [(1, .slice ap P.length cp), (5, .pointer (some ⟨bp, 0, none⟩)), (7, .slice a8_1 (lds L L.length).length c8_1), (8, .int .i64 (tot (lds L L.length))), (9, .pointer (some ⟨b9_1, 0, none⟩)), (10, .int .i64 (i : Nat))]) _
            refine xc_seq ?_
            refine xc_seq ?_
            refine xc_region ?_
            refine xl_pure rfl rfl rfl (pv_move (v := .int _ _) rfl rfl) ?_
            refine xl_pure rfl rfl rfl (pv_move (v := .slice _ _ _) rfl rfl) ?_
            refine xl_pure rfl rfl rfl (pv_len_l rfl rfl) ?_
            refine xl_dec rfl rfl rfl (pv_lss rfl rfl rfl) (fun h11_3 => ?_) (fun h11_3 => ?_)
            · skip
              refine xl_nil ?_
              refine xthen_normal ?_
              refine xc_cond_t rfl ?_
              refine xc_skip ?_
              refine xthen_normal ?_
              refine xc_seq ?_
              refine xc_block ?_
              refine xc_seq ?_
              refine xc_region ?_
              refine xl_pure rfl rfl rfl (pv_move (v := .pointer _) rfl rfl) ?_
              refine xl_heavy rfl rfl rfl (hv_call (g := 13) rfl rfl (c13 mp hR hc1 hna1 hlt hgi) rfl) ?_
              rintro v13_1 H13_1 ⟨a13_1, c13_1, rfl, hQ13_1, hE13_1⟩
              have mp := mp.ext hE13_1
              have hR := hR.ext hE13_1
              have hQ8_1 := hQ8_1.ext hE13_1
              have m9_1 := m9_1.ext hE13_1
              have hR0 := hR0.ext hE13_1
              have hX := hX.trans hE13_1
              refine xl_pure rfl rfl rfl (pv_assign (v := .slice _ _ _) rfl rfl) ?_
              refine xl_nil ?_
              refine xthen_normal ?_
              refine xc_seq ?_
              obtain ⟨bl, ofl, hPe⟩ := (hP.ext hX).at'
              refine xp_start rfl (by repeat (first | with_reducible exact np_fin | with_reducible refine np_then ?_ | with_reducible refine np_block ?_)) (by kernel_rfl) ?_
              refine xp_pure (i := 0) rfl (by kernel_rfl) (by kernel_rfl) rfl rfl rfl (pv_move (v := .pointer _) rfl rfl) ?_
              refine xp_pure (i := 1) rfl (by kernel_rfl) (by kernel_rfl) rfl rfl rfl (pv_move (v := .slice _ _ _) rfl rfl) ?_
              refine xp_pure (i := 2) rfl (by kernel_rfl) (by kernel_rfl) rfl rfl rfl (pv_move (v := .int _ _) rfl rfl) ?_
              refine xp_pure (i := 3) rfl (by kernel_rfl) (by kernel_rfl) rfl rfl rfl (pv_indexAddr_l rfl (sl_eq (hPe (by omega)).1) rfl (by omega)) ?_
              refine xp_pure (i := 4) rfl (by kernel_rfl) (by kernel_rfl) rfl rfl rfl (pv_fieldAddr rfl rfl) ?_
              refine xp_light (i := 5) rfl (by kernel_rfl) (by kernel_rfl) rfl rfl rfl (lv_load (v := .int _ _) rfl rfl (by exact ld_num (j := 0) (hPe (by omega)).2 hP.1 (by omega) (by decide))) ?_
              refine xp_pure (i := 6) rfl (by kernel_rfl) (by kernel_rfl) rfl rfl rfl (pv_move (v := .slice _ _ _) rfl rfl) ?_
              refine xp_pure (i := 7) rfl (by kernel_rfl) (by kernel_rfl) rfl rfl rfl (pv_move (v := .int _ _) rfl rfl) ?_
              refine xp_pure (i := 8) rfl (by kernel_rfl) (by kernel_rfl) rfl rfl rfl (pv_indexAddr_l rfl (sl_eq (hPe (by omega)).1) rfl (by omega)) ?_
              refine xp_pure (i := 9) rfl (by kernel_rfl) (by kernel_rfl) rfl rfl rfl (pv_fieldAddr rfl rfl) ?_
              refine xp_light (i := 10) rfl (by kernel_rfl) (by kernel_rfl) rfl rfl rfl (lv_load (v := .int _ _) rfl rfl (by exact ld_num (j := 1) (hPe (by omega)).2 hP.1 (by omega) (by decide))) ?_
              refine xp_pure (i := 11) rfl (by kernel_rfl) (by kernel_rfl) rfl rfl rfl (pv_move (v := .slice _ _ _) rfl rfl) ?_
              refine xp_pure (i := 12) rfl (by kernel_rfl) (by kernel_rfl) rfl rfl rfl (pv_move (v := .int _ _) rfl rfl) ?_
              refine xp_pure (i := 13) rfl (by kernel_rfl) (by kernel_rfl) rfl rfl rfl (pv_indexAddr_l rfl (sl_eq (hPe (by omega)).1) rfl (by omega)) ?_
              refine xp_pure (i := 14) rfl (by kernel_rfl) (by kernel_rfl) rfl rfl rfl (pv_fieldAddr rfl rfl) ?_
              refine xp_light (i := 15) rfl (by kernel_rfl) (by kernel_rfl) rfl rfl rfl (lv_load (v := .int _ _) rfl rfl (by exact ld_num (j := 2) (hPe (by omega)).2 hP.1 (by omega) (by decide))) ?_
              refine xp_heavy (i := 16) (by kernel_rfl) ?_
              refine xph_val rfl rfl rfl rfl (hv_call (g := 17) rfl rfl (c17 mp hR hc1 hna1 hlt hgi ((gr P i).getD 0 0) ((gr P i).getD 1 0) ((gr P i).getD 2 0)) rfl) (pd (by kernel_rfl) (pd (by kernel_rfl) (pd (by kernel_rfl) pn))) ?_
              rintro v14_16 H14_16 ⟨a14_16, c14_16, rfl, hB14_16, hT14_16, hR14_16, hc14_16, hna14_16⟩
              have hR := hR.offT mp hB14_16 (by first | rfl | assumption)
              have hQ8_1 := hQ8_1.offT mp hB14_16 (by first | rfl | assumption)
              have m9_1 := m9_1.off hB14_16 (by first | exact nmp_9_1.symm | exact ⟨m9_1.ne mp rfl⟩ | exact ⟨m9_1.ne mp (by assumption)⟩ | exact ⟨Ne.symm (mp.ne m9_1 (by assumption))⟩)
              have hR0 := hR0.offT mp hB14_16 (by first | rfl | assumption)
              have hQ13_1 := hQ13_1.offT mp hB14_16 (by first | rfl | assumption)
              have hX := hX.upd hB14_16 gbp
              have mp := hT14_16
              refine ⟨okn, ?_⟩
              refine xp_pure (i := 17) rfl (by kernel_rfl) (by kernel_rfl) rfl rfl rfl (pv_assign (v := .int _ _) rfl rfl) ?_
              refine xp_done (by kernel_rfl) ?_
              refine xthen_normal ?_
              refine xc_seq ?_
              refine xc_region ?_
              refine xl_pure rfl rfl rfl (pv_move (v := .pointer _) rfl rfl) ?_
              refine xl_heavy rfl rfl rfl (hv_call (g := 14) rfl rfl (c14 (x := (moveX (mst (lds L L.length) P i) ((gr P i).getD 0 0) ((gr P i).getD 1 0) ((gr P i).getD 2 0))) mp) rfl) ?_
              rintro v15_1 H15_1 ⟨rfl, rfl⟩
              refine xl_pure rfl rfl rfl (pv_move (v := .int _ _) rfl rfl) ?_
              refine xl_ndec rfl rfl rfl (pv_neq rfl rfl rfl) (fun h15_3 => ?_) (fun h15_3 => ?_)
              · skip
                refine xl_pure rfl rfl rfl (pv_move (v := .bool _) rfl rfl) ?_
                refine xl_pure rfl rfl rfl (pv_move (v := .int _ _) rfl rfl) ?_
                refine xl_ndec rfl rfl rfl (pv_neq rfl rfl rfl) (fun h15_6 => ?_) (fun h15_6 => ?_)
                · skip
                  refine xl_pure rfl rfl rfl (pv_move (v := .bool _) rfl rfl) ?_
                  refine xl_skip rfl rfl rfl ?_
                  refine xl_skip rfl rfl rfl ?_
                  refine xl_skip rfl rfl rfl ?_
                  refine xl_skip rfl rfl rfl ?_
                  refine xl_skip rfl rfl rfl ?_
                  refine xl_pure rfl rfl rfl (pv_pick_f (v := .bool _) rfl rfl rfl) ?_
                  refine xl_pure rfl rfl rfl (pv_pick_f (v := .bool _) rfl rfl rfl) ?_
                  refine xl_nil ?_
                  refine xthen_normal ?_
                  refine xc_cond_f rfl ?_
                  refine xc_skip ?_
                  refine xblock_normal ?_
                  refine xthen_normal ?_
                  refine xc_region ?_
                  refine xl_pure rfl rfl rfl (pv_move (v := .int _ _) rfl rfl) ?_
                  refine xl_pure rfl rfl rfl (pv_add rfl rfl rfl (fit_i64 (by omega))) ?_
                  refine xl_pure rfl rfl rfl (pv_assign (v := .int _ _) rfl rfl) ?_
                  refine xl_nil ?_
                  refine xthen_normal ?_
                  exact ⟨(i + 1, _, _), ⟨rfl, rfl, rfl, rfl, rfl, rfl, trivial⟩, ⟨by (try simp only); omega, by rw [mst_take (by omega)]; exact mp, by rw [mst_take (by omega)]; exact hR14_16, by rw [mst_take (by omega)]; exact hc14_16, hna14_16, m9_1, hR0, hQ8_1, hX⟩, by (try simp only); omega⟩
                · skip
                  refine xl_pure rfl rfl rfl (pv_move (v := .bool _) rfl rfl) ?_
                  refine xl_pure rfl rfl rfl (pv_move (v := .pointer _) rfl rfl) ?_
                  refine xl_heavy rfl rfl rfl (hv_call (g := 13) rfl rfl (c13 mp hR14_16 hc14_16 hna14_16 hltn hgn) rfl) ?_
                  rintro v15_9 H15_9 ⟨a15_9, c15_9, rfl, hQ15_9, hE15_9⟩
                  have mp := mp.ext hE15_9
                  have hR := hR.ext hE15_9
                  have hQ8_1 := hQ8_1.ext hE15_9
                  have m9_1 := m9_1.ext hE15_9
                  have hR0 := hR0.ext hE15_9
                  have hQ13_1 := hQ13_1.ext hE15_9
                  have hR14_16 := hR14_16.ext hE15_9
                  have hX := hX.trans hE15_9
                  refine xl_pure rfl rfl rfl (pv_move (v := .slice _ _ _) rfl rfl) ?_
                  refine xl_heavy rfl rfl rfl (hv_call (g := 12) rfl rfl (c12 (moveX (mst (lds L L.length) P i) ((gr P i).getD 0 0) ((gr P i).getD 1 0) ((gr P i).getD 2 0)) (mst (lds L L.length) P i) _ _ _ _ hQ15_9.rows hQ13_1.rows (by omega)) rfl) ?_
                  rintro v15_11 H15_11 ⟨r15_11, rfl, hb15_11, rfl⟩
                  obtain rfl : r15_11 = true := hb15_11.2 (move_same h15_6)
                  refine xl_pure rfl rfl rfl (pv_not rfl rfl) ?_
                  refine xl_pure rfl rfl rfl (pv_pick_t (v := .bool _) rfl rfl rfl) ?_
                  refine xl_pure rfl rfl rfl (pv_pick_f (v := .bool _) rfl rfl rfl) ?_
                  refine xl_nil ?_
                  refine xthen_normal ?_
                  refine xc_cond_f rfl ?_
                  refine xc_skip ?_
                  refine xblock_normal ?_
                  refine xthen_normal ?_
                  refine xc_region ?_
                  refine xl_pure rfl rfl rfl (pv_move (v := .int _ _) rfl rfl) ?_
                  refine xl_pure rfl rfl rfl (pv_add rfl rfl rfl (fit_i64 (by omega))) ?_
                  refine xl_pure rfl rfl rfl (pv_assign (v := .int _ _) rfl rfl) ?_
                  refine xl_nil ?_
                  refine xthen_normal ?_
                  exact ⟨(i + 1, _, _), ⟨rfl, rfl, rfl, rfl, rfl, rfl, trivial⟩, ⟨by (try simp only); omega, by rw [mst_take (by omega)]; exact mp, by rw [mst_take (by omega)]; exact hR14_16, by rw [mst_take (by omega)]; exact hc14_16, hna14_16, m9_1, hR0, hQ8_1, hX⟩, by (try simp only); omega⟩
              · exact absurd (htn.trans hti) h15_3
            · skip
              refine xl_nil ?_
              refine xthen_normal ?_
              refine xc_cond_f rfl ?_
              refine xc_exit ?_
              refine xthen_exit ?_
              refine xthen_exit ?_
              refine xblock_same ?_
              refine xthen_normal ?_
              refine xc_seq ?_
              refine xc_region ?_
              refine xl_pure rfl rfl rfl (pv_move (v := .pointer _) rfl rfl) ?_
              refine xl_pure rfl rfl rfl (pv_neq_pn rfl rfl rfl) ?_
              refine xl_pure rfl rfl rfl (pv_move (v := .bool _) rfl rfl) ?_
              refine xl_pure rfl rfl rfl (pv_move (v := .pointer _) rfl rfl) ?_
              refine xl_heavy rfl rfl rfl (hv_call (g := 13) rfl rfl (c13 (bp := b9_1) m9_1 hR0 hc hna hyt hgo) rfl) ?_
              rintro v17_4 H17_4 ⟨a17_4, c17_4, rfl, hQ17_4, hE17_4⟩
              have mp := mp.ext hE17_4
              have hR := hR.ext hE17_4
              have hQ8_1 := hQ8_1.ext hE17_4
              have m9_1 := m9_1.ext hE17_4
              have hR0 := hR0.ext hE17_4
              have hX := hX.trans hE17_4
              refine xl_pure rfl rfl rfl (pv_move (v := .slice _ _ _) rfl rfl) ?_
              refine xl_heavy rfl rfl rfl (hv_call (g := 12) rfl rfl (c12 (lds L L.length) (lds L L.length) _ _ _ _ hQ17_4.rows hQ8_1.rows (by omega)) rfl) ?_
              rintro v17_6 H17_6 ⟨r17_6, rfl, hb17_6, rfl⟩
              obtain rfl : r17_6 = true := hb17_6.2 rfl
              refine xl_pure rfl rfl rfl (pv_pick_t (v := .bool _) rfl rfl rfl) ?_
              refine xl_pure rfl rfl rfl (pv_move (v := .bool _) rfl rfl) ?_
              refine xl_pure rfl rfl rfl (pv_move (v := .pointer _) rfl rfl) ?_
              refine xl_heavy rfl rfl rfl (hv_call (g := 14) rfl rfl (c14 (x := (lds L L.length)) m9_1) rfl) ?_
              rintro v17_10 H17_10 ⟨rfl, rfl⟩
              refine xl_pure rfl rfl rfl (pv_move (v := .int _ _) rfl rfl) ?_
              refine xl_dec rfl rfl rfl (pv_eql rfl rfl rfl) (fun h17_12 => ?_) (fun h17_12 => ?_)
              · skip
                refine xl_pure rfl rfl rfl (pv_pick_t (v := .bool _) rfl rfl rfl) ?_
                refine xl_pure rfl rfl rfl (pv_move (v := .bool _) rfl rfl) ?_
                refine xl_heavy rfl rfl rfl (hv_call (g := 7) rfl rfl (c7) rfl) ?_
                rintro v17_15 H17_15 ⟨rfl, hE17_15⟩
                have mp := mp.ext hE17_15
                have hR := hR.ext hE17_15
                have hQ8_1 := hQ8_1.ext hE17_15
                have m9_1 := m9_1.ext hE17_15
                have hR0 := hR0.ext hE17_15
                have hQ17_4 := hQ17_4.ext hE17_15
                have hX := hX.trans hE17_15
                refine xl_pure rfl rfl rfl (pv_pick_t (v := .bool _) rfl rfl rfl) ?_
                refine xl_pure rfl rfl rfl (pv_assign (v := .bool _) rfl rfl) ?_
                refine xl_nil ?_
                refine xthen_normal ?_
                refine xc_ret ?_
                refine fin_ret (res1 (v := .bool _) rfl rfl) ?_
                exact ⟨rfl, hX⟩
              · exact absurd rfl h17_12
        · exact absurd rfl h4_1
      · skip
        refine xl_pure rfl rfl rfl (pv_move (v := .tuple _) rfl rfl) ?_
        refine xl_pure rfl rfl rfl (pv_extract (v := .pointer _) rfl rfl rfl) ?_
        refine xl_pure rfl rfl rfl (pv_extract (v := .int _ _) rfl rfl rfl) ?_
        refine xl_pure rfl rfl rfl (pv_assign (v := .pointer _) rfl rfl) ?_
        refine xl_pure rfl rfl rfl (pv_assign (v := .int _ _) rfl rfl) ?_
        refine xl_nil ?_
        refine xthen_normal ?_
        refine xc_seq ?_
        refine xc_seq ?_
        refine xc_region ?_
        refine xl_pure rfl rfl rfl (pv_move (v := .int _ _) rfl rfl) ?_
        refine xl_ndec rfl rfl rfl (pv_neq rfl rfl rfl) (fun h4_1 => ?_) (fun h4_1 => ?_)
        · exact absurd h4_1 hne
        · skip
          refine xl_nil ?_
          refine xthen_normal ?_
          refine xc_cond_t rfl ?_
          refine xc_seq ?_
          refine xc_region ?_
          refine xl_pure rfl rfl rfl (pv_move (v := .pointer _) rfl rfl) ?_
          refine xl_pure rfl rfl rfl (pv_eql_nn rfl rfl rfl) ?_
          refine xl_pure rfl rfl rfl (pv_move (v := .bool _) rfl rfl) ?_
          refine xl_heavy rfl rfl rfl (hv_call (g := 7) rfl rfl (c7) rfl) ?_
          rintro v5_3 H5_3 ⟨rfl, hE5_3⟩
          have hX := hX.trans hE5_3
          refine xl_pure rfl rfl rfl (pv_pick_t (v := .bool _) rfl rfl rfl) ?_
          refine xl_pure rfl rfl rfl (pv_assign (v := .bool _) rfl rfl) ?_
          refine xl_nil ?_
          refine xthen_normal ?_
          refine xc_ret ?_
          refine xthen_ret ?_
          refine fin_ret (res1 (v := .bool _) rfl rfl) ?_
          exact ⟨rfl, hX⟩
end Go.XG
