/-
  Walks of the seat's functions over the logic XG: each function, what it computes. Printed by a program out of wip/walks.py.
-/
import Derived.Test.YtjlhjjjhblcokaaI
import Derived.Test.YtjlhjjjhblcokaaXs
import Derived.Test.YtjlhjjjhblcokaaTo
import Derived.Test.YtjlhjjjhblcokaaTa
import Derived.Test.YtjlhjjjhblcokaaTb
import Derived.Test.YtjlhjjjhblcokaaKb
import Derived.Test.YtjlhjjjhblcokaaBa
import Derived.Test.YtjlhjjjhblcokaaBb
import Derived.Test.YtjlhjjjhblcokaaBc
import Derived.Test.YtjlhjjjhblcokaaKp
import Derived.Test.YtjlhjjjhblcokaaUa
import Derived.Test.YtjlhjjjhblcokaaKv
import Derived.Test.YtjlhjjjhblcokaaXw
import Derived.Test.YtjlhjjjhblcokaaVa
import Derived.Test.YtjlhjjjhblcokaaVb
import Derived.Test.YtjlhjjjhblcokaaVc
import Derived.Test.YtjlhjjjhblcokaaVd
import Derived.Test.YtjlhjjjhblcokaaBs
import Derived.Test.YtjlhjjjhblcokaaBg
import Derived.Test.YtjlhjjjhblcokaaBd
import Derived.Test.YtjlhjjjhblcokaaBe
import Derived.Test.YtjlhjjjhblcokaaBf
import Derived.Test.YtjlhjjjhblcokaaVg
import Derived.Test.YtjlhjjjhblcokaaKx
namespace Go.XG
open Go.Proofs
set_option maxRecDepth 20000
set_option maxHeartbeats 4000000
theorem c4 {O : Outer} {H : Heap} {al : Option Addr} {cl : Nat} {L : List (List Int)} (hL : Rows H al 5 L) {aA : Option Addr} {cA : Nat} {A : List VAct} (hA : VActs H aA A) :
    FnC Try.prog 4 #[.slice al L.length cl, .slice aA A.length cA] O H (fun v H' => v = .bool true ∧ Ext H H') := by
  refine fn_enter (A := [.slice al L.length cl, .slice aA A.length cA]) Try.func4 rfl rfl ?_
  have hX := Ext.refl H
  refine xc_seq ?_
  refine xc_region ?_
  refine xl_pure rfl rfl rfl (pv_assign (v := .bool _) rfl rfl) ?_
  refine xl_nil ?_
  refine xthen_normal ?_
  refine xc_seq ?_
  refine xc_seq ?_
  refine xc_region ?_
  refine xl_pure rfl rfl rfl (pv_move (v := .slice _ _ _) rfl rfl) ?_
  refine xl_pure rfl rfl rfl (pv_len_l rfl rfl) ?_
  refine xl_dec rfl rfl rfl (pv_gtr rfl rfl rfl) (fun h1_2 => ?_) (fun h1_2 => ?_)
  · skip
    refine xl_pure rfl rfl rfl (pv_move (v := .bool _) rfl rfl) ?_
    refine xl_skip rfl rfl rfl ?_
    refine xl_skip rfl rfl rfl ?_
    refine xl_skip rfl rfl rfl ?_
    refine xl_pure rfl rfl rfl (pv_pick_t (v := .bool _) rfl rfl rfl) ?_
    refine xl_nil ?_
    refine xthen_normal ?_
    refine xc_cond_t rfl ?_
    refine xc_seq ?_
    refine xc_region ?_
    refine xl_heavy rfl rfl rfl (hv_call (g := 11) rfl rfl (c11) rfl) ?_
    rintro v2_0 H2_0 ⟨rfl, hE2_0⟩
    have hX := hX.trans hE2_0
    refine xl_pure rfl rfl rfl (pv_assign (v := .bool _) rfl rfl) ?_
    refine xl_nil ?_
    refine xthen_normal ?_
    refine xc_ret ?_
    refine xthen_ret ?_
    refine fin_ret (res1 (v := .bool _) rfl rfl) ?_
    exact ⟨rfl, hX⟩
  · skip
    refine xl_pure rfl rfl rfl (pv_move (v := .bool _) rfl rfl) ?_
    refine xl_pure rfl rfl rfl (pv_move (v := .slice _ _ _) rfl rfl) ?_
    refine xl_pure rfl rfl rfl (pv_len_l rfl rfl) ?_
    refine xl_dec rfl rfl rfl (pv_gtr rfl rfl rfl) (fun h1_6 => ?_) (fun h1_6 => ?_)
    · skip
      refine xl_pure rfl rfl rfl (pv_pick_f (v := .bool _) rfl rfl rfl) ?_
      refine xl_nil ?_
      refine xthen_normal ?_
      refine xc_cond_t rfl ?_
      refine xc_seq ?_
      refine xc_region ?_
      refine xl_heavy rfl rfl rfl (hv_call (g := 11) rfl rfl (c11) rfl) ?_
      rintro v2_0 H2_0 ⟨rfl, hE2_0⟩
      have hX := hX.trans hE2_0
      refine xl_pure rfl rfl rfl (pv_assign (v := .bool _) rfl rfl) ?_
      refine xl_nil ?_
      refine xthen_normal ?_
      refine xc_ret ?_
      refine xthen_ret ?_
      refine fin_ret (res1 (v := .bool _) rfl rfl) ?_
      exact ⟨rfl, hX⟩
    · skip
      refine xl_pure rfl rfl rfl (pv_pick_f (v := .bool _) rfl rfl rfl) ?_
      refine xl_nil ?_
      refine xthen_normal ?_
      refine xc_cond_f rfl ?_
      refine xc_skip ?_
      refine xthen_normal ?_
      refine xc_seq ?_
      have hX0 := hX
      refine xc_region ?_
      refine xl_pure rfl rfl rfl (pv_move (v := .slice _ _ _) rfl rfl) ?_
      refine xl_heavy rfl rfl rfl (hv_call (g := 12) rfl rfl (c12 (hL.ext hX) (by omega)) rfl) ?_
      rintro v3_1 H3_1 ⟨e3_1, hl3_1, hv3_1, hE3_1⟩
      have hX := hX.trans hE3_1
      rcases hv3_1 with ⟨rfl, ⟨bp, a, c, T, rfl, gbp, mp, hR, hc, hna, ht⟩, hgo⟩ | ⟨hne, rfl⟩
      · skip
        have gbp : Fresh H bp := ⟨Nat.le_trans hX0.size gbp.le⟩
        have hyl := (lds_half hL.1 (Nat.le_refl _) (ldr_ok hl3_1).1).len
        have hyt : (ldB L L.length).length < 100000 := by omega
        refine xl_pure rfl rfl rfl (pv_move (v := .tuple _) rfl rfl) ?_
        refine xl_pure rfl rfl rfl (pv_extract (v := .pointer _) rfl rfl rfl) ?_
        refine xl_pure rfl rfl rfl (pv_extract (v := .int _ _) rfl rfl rfl) ?_
        refine xl_pure rfl rfl rfl (pv_assign (v := .pointer _) rfl rfl) ?_
        refine xl_pure rfl rfl rfl (pv_assign (v := .int _ _) rfl rfl) ?_
        refine xl_nil ?_
        refine xthen_normal ?_
        refine xc_seq ?_
        refine xc_region ?_
        refine xl_pure rfl rfl rfl (pv_move (v := .slice _ _ _) rfl rfl) ?_
        refine xl_heavy rfl rfl rfl (hv_call (g := 13) rfl rfl (c13 (hL.ext hX) (by omega)) rfl) ?_
        rintro v4_1 H4_1 ⟨e4_1, hl4_1, hv4_1, hE4_1⟩
        have mp := mp.ext hE4_1
        have hR := hR.ext hE4_1
        have hX := hX.trans hE4_1
        have he4_1 := hl4_1.uniq hl3_1
        rw [he4_1] at hv4_1
        obtain ⟨aq, cq, rfl, hQ⟩ : ∃ a' c', v4_1 = .tuple #[.slice a' (ldB L L.length).length c', .int .i64 0] ∧ RowsT H4_1 99 5 a' (ldB L L.length) := by rcases hv4_1 with ⟨_, h⟩ | ⟨h, _⟩; exact h; exact absurd rfl h
        refine xl_pure rfl rfl rfl (pv_move (v := .tuple _) rfl rfl) ?_
        refine xl_pure rfl rfl rfl (pv_extract (v := .slice _ _ _) rfl rfl rfl) ?_
        refine xl_pure rfl rfl rfl (pv_extract (v := .int _ _) rfl rfl rfl) ?_
        refine xl_pure rfl rfl rfl (pv_assign (v := .slice _ _ _) rfl rfl) ?_
        refine xl_pure rfl rfl rfl (pv_assign (v := .int _ _) rfl rfl) ?_
        refine xl_nil ?_
        refine xthen_normal ?_
        refine xc_seq ?_
        refine xc_seq ?_
        refine xc_region ?_
        refine xl_pure rfl rfl rfl (pv_move (v := .int _ _) rfl rfl) ?_
        refine xl_pure rfl rfl rfl (pv_move (v := .int _ _) rfl rfl) ?_
        refine xl_ndec rfl rfl rfl (pv_neq rfl rfl rfl) (fun h5_2 => ?_) (fun h5_2 => ?_)
        · skip
          refine xl_pure rfl rfl rfl (pv_move (v := .bool _) rfl rfl) ?_
          refine xl_pure rfl rfl rfl (pv_move (v := .pointer _) rfl rfl) ?_
          refine xl_pure rfl rfl rfl (pv_neq_pn rfl rfl rfl) ?_
          refine xl_pure rfl rfl rfl (pv_move (v := .int _ _) rfl rfl) ?_
          refine xl_dec rfl rfl rfl (pv_eql rfl rfl rfl) (fun h5_7 => ?_) (fun h5_7 => ?_)
          · skip
            refine xl_pure rfl rfl rfl (pv_neq_b rfl rfl rfl) ?_
            refine xl_pure rfl rfl rfl (pv_pick_f (v := .bool _) rfl rfl rfl) ?_
            refine xl_nil ?_
            refine xthen_normal ?_
            refine xc_cond_f rfl ?_
            refine xc_skip ?_
            refine xthen_normal ?_
            refine xc_seq ?_
            refine xc_seq ?_
            refine xc_region ?_
            refine xl_pure rfl rfl rfl (pv_assign (v := .int _ _) rfl rfl) ?_
            refine xl_nil ?_
            refine xthen_normal ?_
            refine xc_block ?_
            refine xc_loop (τ := Nat × Option Addr × Nat × List Int × Option Addr × Nat) (fun t => [(1, .slice aA A.length cA), (5, .pointer (some ⟨bp, 0, none⟩)), (6, .int .i64 0), (7, .slice t.2.2.2.2.1 (vast (ldB L L.length) A t.1).length t.2.2.2.2.2), (9, .int .i64 (t.1 : Nat))]) (fun t H' => (t.1 ≤ A.length) ∧ (Blk H' bp (.slice t.2.1 ((vast (ldB L L.length) A t.1)).length t.2.2.1 :: ints (t.2.2.2.1)) 87) ∧ (RowsT H' 138 5 t.2.1 (vast (ldB L L.length) A t.1)) ∧ ((vast (ldB L L.length) A t.1).length ≤ t.2.2.1) ∧ (t.2.1 = none → t.2.2.1 = 0) ∧ (Tots (vast (ldB L L.length) A t.1) t.2.2.2.1) ∧ (RowsT H' 99 5 t.2.2.2.2.1 (vast (ldB L L.length) A t.1)) ∧ (Ext H H')) (fun t H' => A.length - t.1) (0, a, c, T, aq, cq) ?_ ?_ ?_
            · exact ⟨rfl, rfl, rfl, rfl, rfl, trivial⟩
            · skip
              exact ⟨Nat.zero_le _, mp, hR, hc, hna, ht, hQ, hX⟩
            · intro σ
              clear hX mp hR hQ
              rintro ⟨i, a1, c1, T1, a2, c2⟩ Hl8 ⟨hi, mp, hR, hc1, hna1, hty, hQ, hX⟩
              replace hi : i ≤ A.length := hi
              replace mp : Blk Hl8 bp (.slice a1 ((vast (ldB L L.length) A i)).length c1 :: ints (T1)) 87 := mp
              replace hR : RowsT Hl8 138 5 a1 (vast (ldB L L.length) A i) := hR
              replace hc1 : (vast (ldB L L.length) A i).length ≤ c1 := hc1
              replace hna1 : a1 = none → c1 = 0 := hna1
              replace hty : Tots (vast (ldB L L.length) A i) T1 := hty
              replace hQ : RowsT Hl8 99 5 a2 (vast (ldB L L.length) A i) := hQ
              replace hX : Ext H Hl8 := hX
              obtain ⟨hgi, hli⟩ := goo_vast (A := A) hgo i
              obtain ⟨hgn, hln⟩ := goo_vst (r := gV A i) hgi
              have hlt : (vast (ldB L L.length) A i).length < 190000 := by omega
              have hltn : (vstX (vast (ldB L L.length) A i) (gV A i)).length < 1000000 := by omega
              obtain ⟨bl, ofl, hAe⟩ := (hA.ext hX).at'
              show XC _ _ _ (upds σ [(1, .slice aA A.length cA), (5, .pointer (some ⟨bp, 0, none⟩)), (6, .int .i64 0), (7, .slice a2 (vast (ldB L L.length) A i).length c2), (9, .int .i64 (i : Nat))]) _
              refine xc_seq ?_
              refine xc_seq ?_
              refine xc_region ?_
              refine xl_pure rfl rfl rfl (pv_move (v := .int _ _) rfl rfl) ?_
              refine xl_pure rfl rfl rfl (pv_move (v := .slice _ _ _) rfl rfl) ?_
              refine xl_pure rfl rfl rfl (pv_len_l rfl rfl) ?_
              refine xl_dec rfl rfl rfl (pv_lss rfl rfl rfl) (fun h8_3 => ?_) (fun h8_3 => ?_)
              · skip
                refine xl_pure rfl rfl rfl (pv_move (v := .bool _) rfl rfl) ?_
                refine xl_pure rfl rfl rfl (pv_move (v := .int _ _) rfl rfl) ?_
                refine xl_dec rfl rfl rfl (pv_eql rfl rfl rfl) (fun h8_6 => ?_) (fun h8_6 => ?_)
                · skip
                  refine xl_pure rfl rfl rfl (pv_pick_t (v := .bool _) rfl rfl rfl) ?_
                  refine xl_nil ?_
                  refine xthen_normal ?_
                  refine xc_cond_t rfl ?_
                  refine xc_skip ?_
                  refine xthen_normal ?_
                  refine xc_seq ?_
                  refine xc_block ?_
                  refine xc_seq ?_
                  refine xc_region ?_
                  refine xl_pure rfl rfl rfl (pv_move (v := .slice _ _ _) rfl rfl) ?_
                  refine xl_pure rfl rfl rfl (pv_move (v := .int _ _) rfl rfl) ?_
                  refine xl_pure rfl rfl rfl (pv_indexAddr_l rfl (sl_eq (hAe (by omega)).1) rfl (by omega)) ?_
                  refine xl_light rfl rfl rfl (lv_load (v := .agg _) rfl rfl (by exact ld_vact (hAe (by omega)).2 (by omega))) ?_
                  refine xl_heavy rfl rfl rfl (hv_alloc rfl rfl) ?_
                  rintro v10_4 H10_4 ⟨b10_4, rfl, hN10_4⟩
                  have gb10_4 := hX.fresh hN10_4
                  have nmp_10_4 := mp.apart hN10_4
                  have mp := mp.ext hN10_4.ext
                  have hR := hR.ext hN10_4.ext
                  have hQ := hQ.ext hN10_4.ext
                  have hX := hX.trans hN10_4.ext
                  have m10_4 := hN10_4.blk
                  refine xl_store rfl rfl (hv_storeA (vs := (vcs (gV A i))) rfl rfl rfl (m10_4) rfl (by rfl) rfl) ?_
                  rintro v10_5 H10_5 ⟨hU10_5, hZ10_5⟩
                  have mp := mp.off hU10_5.but (by first | exact nmp_10_4 | exact ⟨mp.ne m10_4 rfl⟩ | exact ⟨mp.ne m10_4 (by assumption)⟩ | exact ⟨Ne.symm (m10_4.ne mp (by assumption))⟩)
                  have hR := hR.offT m10_4 hU10_5.but (by first | rfl | assumption)
                  have hQ := hQ.offT m10_4 hU10_5.but (by first | rfl | assumption)
                  have hX := hX.upd hU10_5.but gb10_4
                  have m10_4 := hU10_5.blk
                  refine xl_nil ?_
                  refine xthen_normal ?_
                  refine xc_seq ?_
                  refine xc_seq ?_
                  refine xc_region ?_
                  refine xl_pure rfl rfl rfl (pv_fieldAddr rfl rfl) ?_
                  refine xl_light rfl rfl rfl (lv_load (v := .slice _ _ _) rfl rfl (ld_blk m10_4 rfl)) ?_
                  refine xl_pure rfl rfl rfl (pv_len_l rfl rfl) ?_
                  refine xl_dec rfl rfl rfl (pv_gtr rfl rfl rfl) (fun h11_3 => ?_) (fun h11_3 => ?_)
                  · skip
                    refine xl_nil ?_
                    refine xthen_normal ?_
                    refine xc_cond_t rfl ?_
                    refine xc_seq ?_
                    refine xc_region ?_
                    refine xl_heavy rfl rfl rfl (hv_call (g := 11) rfl rfl (c11) rfl) ?_
                    rintro v12_0 H12_0 ⟨rfl, hE12_0⟩
                    have mp := mp.ext hE12_0
                    have hR := hR.ext hE12_0
                    have hQ := hQ.ext hE12_0
                    have m10_4 := m10_4.ext hE12_0
                    have hX := hX.trans hE12_0
                    refine xl_pure rfl rfl rfl (pv_assign (v := .bool _) rfl rfl) ?_
                    refine xl_nil ?_
                    refine xthen_normal ?_
                    refine xc_ret ?_
                    refine xthen_ret ?_
                    refine xblock_ret ?_
                    refine xthen_ret ?_
                    refine xthen_ret ?_
                    refine xblock_ret ?_
                    refine xthen_ret ?_
                    refine fin_ret (res1 (v := .bool _) rfl rfl) ?_
                    exact ⟨rfl, hX⟩
                  · skip
                    refine xl_nil ?_
                    refine xthen_normal ?_
                    refine xc_cond_f rfl ?_
                    refine xc_skip ?_
                    refine xthen_normal ?_
                    refine xc_seq ?_
                    refine xc_seq ?_
                    refine xp_start rfl (by repeat (first | with_reducible exact np_fin | with_reducible exact np_ret | with_reducible refine np_then ?_ | with_reducible refine np_block ?_)) (by kernel_rfl) ?_
                    refine xp_pure (i := 0) rfl (by kernel_rfl) (by kernel_rfl) rfl rfl rfl (pv_move (v := .pointer _) rfl rfl) ?_
                    refine xp_pure (i := 1) rfl (by kernel_rfl) (by kernel_rfl) rfl rfl rfl (pv_fieldAddr rfl rfl) ?_
                    refine xp_light (i := 2) rfl (by kernel_rfl) (by kernel_rfl) rfl rfl rfl (lv_load (v := .int _ _) rfl rfl (ld_blk m10_4 rfl)) ?_
                    refine xp_pure (i := 3) rfl (by kernel_rfl) (by kernel_rfl) rfl rfl rfl (pv_fieldAddr rfl rfl) ?_
                    refine xp_light (i := 4) rfl (by kernel_rfl) (by kernel_rfl) rfl rfl rfl (lv_load (v := .int _ _) rfl rfl (ld_blk m10_4 rfl)) ?_
                    refine xp_pure (i := 5) rfl (by kernel_rfl) (by kernel_rfl) rfl rfl rfl (pv_fieldAddr rfl rfl) ?_
                    refine xp_light (i := 6) rfl (by kernel_rfl) (by kernel_rfl) rfl rfl rfl (lv_load (v := .int _ _) rfl rfl (ld_blk m10_4 rfl)) ?_
                    refine xp_pure (i := 8) rfl (by kernel_rfl) (by kernel_rfl) rfl rfl rfl (pv_move (v := .slice _ _ _) rfl rfl) ?_
                    refine xp_pure (i := 9) rfl (by kernel_rfl) (by kernel_rfl) rfl rfl rfl (pv_fieldAddr rfl rfl) ?_
                    refine xp_light (i := 10) rfl (by kernel_rfl) (by kernel_rfl) rfl rfl rfl (lv_load (v := .int _ _) rfl rfl (ld_blk m10_4 rfl)) ?_
                    refine xp_pure (i := 11) rfl (by kernel_rfl) (by kernel_rfl) rfl rfl rfl (pv_fieldAddr rfl rfl) ?_
                    refine xp_light (i := 12) rfl (by kernel_rfl) (by kernel_rfl) rfl rfl rfl (lv_load (v := .int _ _) rfl rfl (ld_blk m10_4 rfl)) ?_
                    refine xp_pure (i := 13) rfl (by kernel_rfl) (by kernel_rfl) rfl rfl rfl (pv_fieldAddr rfl rfl) ?_
                    refine xp_light (i := 14) rfl (by kernel_rfl) (by kernel_rfl) rfl rfl rfl (lv_load (v := .int _ _) rfl rfl (ld_blk m10_4 rfl)) ?_
                    refine xp_heavy (i := 7) (by kernel_rfl) ?_
                    refine xph_val rfl rfl rfl rfl (hv_call (g := 15) rfl rfl (c15 mp hR hc1 hna1 (by omega) hgi hty (gV A i).w (gV A i).i (gV A i).p) rfl) (pk (by kernel_rfl) (pk (by kernel_rfl) (pk (by kernel_rfl) (pd (by kernel_rfl) (pd (by kernel_rfl) (pd (by kernel_rfl) pn)))))) ?_
                    rintro v13_7 H13_7 ⟨a13_7, c13_7, rfl, hH13_7, hE13_7⟩
                    have mp := mp.ext hE13_7
                    have hR := hR.ext hE13_7
                    have hQ := hQ.ext hE13_7
                    have m10_4 := m10_4.ext hE13_7
                    have hX := hX.trans hE13_7
                    refine ⟨(okc (lv_load (v := .int _ _) rfl rfl (ld_blk m10_4 rfl)) (okc (lv_load (v := .int _ _) rfl rfl (ld_blk m10_4 rfl)) (okc (lv_load (v := .int _ _) rfl rfl (ld_blk m10_4 rfl)) okn))), ?_⟩
                    refine xp_heavy (i := 15) (by kernel_rfl) ?_
                    refine xph_val rfl rfl rfl rfl (hv_call (g := 16) rfl rfl (c16 hQ hgi (by omega) (gV A i).w (gV A i).i (gV A i).p) rfl) (pd (by kernel_rfl) (pd (by kernel_rfl) (pd (by kernel_rfl) pn))) ?_
                    rintro v13_15 H13_15 ⟨a13_15, c13_15, rfl, hD13_15, hE13_15⟩
                    have mp := mp.ext hE13_15
                    have hR := hR.ext hE13_15
                    have hQ := hQ.ext hE13_15
                    have m10_4 := m10_4.ext hE13_15
                    have hH13_7 := hH13_7.ext hE13_15
                    have hX := hX.trans hE13_15
                    refine ⟨okn, ?_⟩
                    refine xp_heavy (i := 16) (by kernel_rfl) ?_
                    refine xph_val rfl rfl rfl rfl (hv_call (g := 14) rfl rfl (gSame _ _ _ _ _ _ hH13_7.st hD13_15 (by have := hd_len (l := (vast (ldB L L.length) A i)) (w := (gV A i).w) (i := (gV A i).i) (p := (gV A i).p); omega)) rfl) pn ?_
                    rintro v13_16 H13_16 ⟨r13_16, rfl, hb13_16, rfl⟩
                    obtain rfl : r13_16 = true := hb13_16.2 rfl
                    refine ⟨okn, ?_⟩
                    refine xp_pure (i := 17) rfl (by kernel_rfl) (by kernel_rfl) rfl rfl rfl (pv_not rfl rfl) ?_
                    refine xp_done (by kernel_rfl) ?_
                    refine xthen_normal ?_
                    refine xc_cond_f rfl ?_
                    refine xc_skip ?_
                    refine xthen_normal ?_
                    refine xc_seq ?_
                    refine xc_region ?_
                    refine xl_pure rfl rfl rfl (pv_assign (v := .slice _ _ _) rfl rfl) ?_
                    refine xl_nil ?_
                    refine xthen_normal ?_
                    refine xc_seq ?_
                    refine xc_region ?_
                    refine xl_pure rfl rfl rfl (pv_assign (v := .int _ _) rfl rfl) ?_
                    refine xl_pure rfl rfl rfl (pv_assign (v := .int _ _) rfl rfl) ?_
                    refine xl_nil ?_
                    refine xthen_normal ?_
                    refine xc_seq ?_
                    refine xc_region ?_
                    refine xl_pure rfl rfl rfl (pv_assign (v := .slice _ _ _) rfl rfl) ?_
                    refine xl_pure rfl rfl rfl (pv_assign (v := .slice _ _ _) rfl rfl) ?_
                    refine xl_nil ?_
                    refine xthen_normal ?_
                    refine xc_seq ?_
                    refine xc_seq ?_
                    refine xc_region ?_
                    refine xl_pure rfl rfl rfl (pv_fieldAddr rfl rfl) ?_
                    refine xl_light rfl rfl rfl (lv_load (v := .int _ _) rfl rfl (ld_blk m10_4 rfl)) ?_
                    refine xl_nil ?_
                    refine xthen_normal ?_
                    refine xc_block ?_
                    refine xc_seq ?_
                    refine xc_region ?_
                    refine xl_dec rfl rfl rfl (pv_eql rfl rfl rfl) (fun h21_0 => ?_) (fun h21_0 => ?_)
                    · skip
                      refine xl_pure rfl rfl rfl (pv_assign (v := .bool _) rfl rfl) ?_
                      refine xl_nil ?_
                      refine xthen_normal ?_
                      refine xc_cond_t rfl ?_
                      refine xc_seq ?_
                      refine xc_region ?_
                      refine xl_pure rfl rfl rfl (pv_move (v := .pointer _) rfl rfl) ?_
                      refine xl_pure rfl rfl rfl (pv_fieldAddr rfl rfl) ?_
                      refine xl_light rfl rfl rfl (lv_load (v := .agg _) rfl rfl (by exact ld_part (off := 0) (k := 4) (cs := [.int .i64 (gV A i).x0, .int .i64 (gV A i).x1, .int .i64 (gV A i).x2, .int .i64 (gV A i).x3]) m10_4.row rfl rfl rfl)) ?_
                      refine xl_pure rfl rfl rfl (pv_fieldAddr rfl rfl) ?_
                      refine xl_light rfl rfl rfl (lv_load (v := .int _ _) rfl rfl (ld_blk m10_4 rfl)) ?_
                      refine xl_pure rfl rfl rfl (pv_fieldAddr rfl rfl) ?_
                      refine xl_light rfl rfl rfl (lv_load (v := .int _ _) rfl rfl (ld_blk m10_4 rfl)) ?_
                      refine xl_pure rfl rfl rfl (pv_fieldAddr rfl rfl) ?_
                      refine xl_light rfl rfl rfl (lv_load (v := .slice _ _ _) rfl rfl (ld_blk m10_4 rfl)) ?_
                      refine xl_heavy rfl rfl rfl (hv_call (g := 17) rfl rfl (c17 mp hR hc1 hna1 (by omega) hgi hty (stksO_new (hA.stks (show i < A.length by omega)) hX gbp.le) (by omega) (gV A i).x0 (gV A i).x1 (gV A i).x2 (gV A i).x3 (gV A i).w (gV A i).i) rfl) ?_
                      rintro v22_9 H22_9 ⟨a22_9, c22_9, T22_9, hv22_9, hB22_9, hT22_9, hR22_9, hc22_9, hna22_9, ht22_9⟩
                      have hR := hR.offT mp hB22_9 (by first | rfl | assumption)
                      have hQ := hQ.offT mp hB22_9 (by first | rfl | assumption)
                      have m10_4 := m10_4.off hB22_9 (by first | exact nmp_10_4.symm | exact ⟨m10_4.ne mp rfl⟩ | exact ⟨m10_4.ne mp (by assumption)⟩ | exact ⟨Ne.symm (mp.ne m10_4 (by assumption))⟩)
                      have hX := hX.upd hB22_9 gbp
                      have mp := hT22_9
                      obtain ⟨e1, e2⟩ := vst1 (l := (vast (ldB L L.length) A i)) (r := (gV A i)) h21_0
                      rw [← e1] at hv22_9
                      rw [← e2] at mp hR22_9 hc22_9 ht22_9
                      subst hv22_9
                      refine xl_pure rfl rfl rfl (pv_assign (v := .int _ _) rfl rfl) ?_
                      refine xl_nil ?_
                      refine xthen_normal ?_
                      refine xc_region ?_
                      refine xl_pure rfl rfl rfl (pv_move (v := .slice _ _ _) rfl rfl) ?_
                      refine xl_pure rfl rfl rfl (pv_fieldAddr rfl rfl) ?_
                      refine xl_light rfl rfl rfl (lv_load (v := .agg _) rfl rfl (by exact ld_part (off := 0) (k := 4) (cs := [.int .i64 (gV A i).x0, .int .i64 (gV A i).x1, .int .i64 (gV A i).x2, .int .i64 (gV A i).x3]) m10_4.row rfl rfl rfl)) ?_
                      refine xl_pure rfl rfl rfl (pv_fieldAddr rfl rfl) ?_
                      refine xl_light rfl rfl rfl (lv_load (v := .int _ _) rfl rfl (ld_blk m10_4 rfl)) ?_
                      refine xl_pure rfl rfl rfl (pv_fieldAddr rfl rfl) ?_
                      refine xl_light rfl rfl rfl (lv_load (v := .int _ _) rfl rfl (ld_blk m10_4 rfl)) ?_
                      refine xl_pure rfl rfl rfl (pv_fieldAddr rfl rfl) ?_
                      refine xl_light rfl rfl rfl (lv_load (v := .slice _ _ _) rfl rfl (ld_blk m10_4 rfl)) ?_
                      refine xl_heavy rfl rfl rfl (hv_call (g := 18) rfl rfl (c18 hQ hgi (by omega) (gV A i).x0 (gV A i).x1 (gV A i).x2 (gV A i).x3 (gV A i).w (gV A i).i ((hA.stks (show i < A.length by omega)).ext hX) (by omega)) rfl) ?_
                      rintro v23_9 H23_9 ⟨a23_9, c23_9, hv23_9, hQ23_9, hE23_9⟩
                      have mp := mp.ext hE23_9
                      have hR := hR.ext hE23_9
                      have hQ := hQ.ext hE23_9
                      have m10_4 := m10_4.ext hE23_9
                      have hR22_9 := hR22_9.ext hE23_9
                      have hX := hX.trans hE23_9
                      rw [← e1, ← e2] at hv23_9
                      rw [← e2] at hQ23_9
                      subst hv23_9
                      refine xl_pure rfl rfl rfl (pv_move (v := .tuple _) rfl rfl) ?_
                      refine xl_pure rfl rfl rfl (pv_extract (v := .slice _ _ _) rfl rfl rfl) ?_
                      refine xl_pure rfl rfl rfl (pv_extract (v := .int _ _) rfl rfl rfl) ?_
                      refine xl_pure rfl rfl rfl (pv_assign (v := .slice _ _ _) rfl rfl) ?_
                      refine xl_pure rfl rfl rfl (pv_assign (v := .int _ _) rfl rfl) ?_
                      refine xl_nil ?_
                      refine xblock_normal ?_
                      refine xthen_normal ?_
                      refine xc_seq ?_
                      refine xc_seq ?_
                      refine xc_region ?_
                      refine xl_pure rfl rfl rfl (pv_move (v := .int _ _) rfl rfl) ?_
                      refine xl_pure rfl rfl rfl (pv_move (v := .int _ _) rfl rfl) ?_
                      refine xl_ndec rfl rfl rfl (pv_neq rfl rfl rfl) (fun h27_2 => ?_) (fun h27_2 => ?_)
                      · skip
                        refine xl_pure rfl rfl rfl (pv_move (v := .bool _) rfl rfl) ?_
                        refine xl_pure rfl rfl rfl (pv_move (v := .slice _ _ _) rfl rfl) ?_
                        refine xl_pure rfl rfl rfl (pv_move (v := .slice _ _ _) rfl rfl) ?_
                        refine xl_heavy rfl rfl rfl (hv_call (g := 14) rfl rfl (gSame [] [] none none 0 0 Stks.nil Stks.nil (by decide)) rfl) ?_
                        rintro v27_6 H27_6 ⟨r27_6, rfl, hb27_6, rfl⟩
                        obtain rfl : r27_6 = true := hb27_6.2 rfl
                        refine xl_pure rfl rfl rfl (pv_not rfl rfl) ?_
                        refine xl_pure rfl rfl rfl (pv_pick_f (v := .bool _) rfl rfl rfl) ?_
                        refine xl_pure rfl rfl rfl (pv_move (v := .bool _) rfl rfl) ?_
                        refine xl_pure rfl rfl rfl (pv_move (v := .pointer _) rfl rfl) ?_
                        refine xl_heavy rfl rfl rfl (hv_call (g := 24) rfl rfl (c24 mp hR22_9 hc22_9 hna22_9 hltn) rfl) ?_
                        rintro v27_11 H27_11 ⟨a27_11, c27_11, rfl, hQ27_11, hE27_11⟩
                        have mp := mp.ext hE27_11
                        have hR := hR.ext hE27_11
                        have hQ := hQ.ext hE27_11
                        have m10_4 := m10_4.ext hE27_11
                        have hR22_9 := hR22_9.ext hE27_11
                        have hQ23_9 := hQ23_9.ext hE27_11
                        have hX := hX.trans hE27_11
                        refine xl_pure rfl rfl rfl (pv_move (v := .slice _ _ _) rfl rfl) ?_
                        refine xl_heavy rfl rfl rfl (hv_call (g := 23) rfl rfl (c23 (vstX (vast (ldB L L.length) A i) (gV A i)) (vstX (vast (ldB L L.length) A i) (gV A i)) _ _ _ _ hQ27_11.rows hQ23_9.rows (by omega)) rfl) ?_
                        rintro v27_13 H27_13 ⟨r27_13, rfl, hb27_13, rfl⟩
                        obtain rfl : r27_13 = true := hb27_13.2 rfl
                        refine xl_pure rfl rfl rfl (pv_not rfl rfl) ?_
                        refine xl_pure rfl rfl rfl (pv_pick_f (v := .bool _) rfl rfl rfl) ?_
                        refine xl_nil ?_
                        refine xthen_normal ?_
                        refine xc_cond_f rfl ?_
                        refine xc_skip ?_
                        refine xthen_normal ?_
                        refine xc_region ?_
                        refine xl_pure rfl rfl rfl (pv_move (v := .slice _ _ _) rfl rfl) ?_
                        refine xl_pure rfl rfl rfl (pv_assign (v := .slice _ _ _) rfl rfl) ?_
                        refine xl_nil ?_
                        refine xblock_normal ?_
                        refine xthen_normal ?_
                        refine xc_region ?_
                        refine xl_pure rfl rfl rfl (pv_move (v := .int _ _) rfl rfl) ?_
                        refine xl_pure rfl rfl rfl (pv_add rfl rfl rfl (fit_i64 (by omega))) ?_
                        refine xl_pure rfl rfl rfl (pv_assign (v := .int _ _) rfl rfl) ?_
                        refine xl_nil ?_
                        refine xthen_normal ?_
                        first
                          | exact ⟨(i + 1, _, _, _, _, _), ⟨rfl, rfl, rfl, rfl, rfl, trivial⟩, ⟨by (try simp only); omega, mp, hR22_9, hc22_9, hna22_9, ht22_9, hQ23_9, hX⟩, by (try simp only); omega⟩
                          | exact ⟨(i + 1, _, _, _, _, _), ⟨rfl, rfl, rfl, rfl, rfl, trivial⟩, ⟨by (try simp only); omega, mp, hR25_9, hc25_9, hna25_9, ht25_9, hQ26_9, hX⟩, by (try simp only); omega⟩
                          | exact ⟨(i + 1, _, _, _, _, _), ⟨rfl, rfl, rfl, rfl, rfl, trivial⟩, ⟨by (try simp only); omega, mp, hR19_7, hc19_7, hna19_7, ht19_7, hQ20_7, hX⟩, by (try simp only); omega⟩
                      · exact absurd rfl h27_2
                    · skip
                      refine xl_pure rfl rfl rfl (pv_assign (v := .bool _) rfl rfl) ?_
                      refine xl_nil ?_
                      refine xthen_normal ?_
                      refine xc_cond_f rfl ?_
                      refine xc_seq ?_
                      refine xc_region ?_
                      refine xl_dec rfl rfl rfl (pv_eql rfl rfl rfl) (fun h24_0 => ?_) (fun h24_0 => ?_)
                      · skip
                        refine xl_pure rfl rfl rfl (pv_assign (v := .bool _) rfl rfl) ?_
                        refine xl_nil ?_
                        refine xthen_normal ?_
                        refine xc_cond_t rfl ?_
                        refine xc_seq ?_
                        refine xc_region ?_
                        refine xl_pure rfl rfl rfl (pv_move (v := .pointer _) rfl rfl) ?_
                        refine xl_pure rfl rfl rfl (pv_fieldAddr rfl rfl) ?_
                        refine xl_light rfl rfl rfl (lv_load (v := .int _ _) rfl rfl (ld_blk m10_4 rfl)) ?_
                        refine xl_pure rfl rfl rfl (pv_fieldAddr rfl rfl) ?_
                        refine xl_light rfl rfl rfl (lv_load (v := .int _ _) rfl rfl (ld_blk m10_4 rfl)) ?_
                        refine xl_pure rfl rfl rfl (pv_fieldAddr rfl rfl) ?_
                        refine xl_light rfl rfl rfl (lv_load (v := .int _ _) rfl rfl (ld_blk m10_4 rfl)) ?_
                        refine xl_pure rfl rfl rfl (pv_fieldAddr rfl rfl) ?_
                        refine xl_light rfl rfl rfl (lv_load (v := .agg _) rfl rfl (by exact ld_part (off := 0) (k := 4) (cs := [.int .i64 (gV A i).x0, .int .i64 (gV A i).x1, .int .i64 (gV A i).x2, .int .i64 (gV A i).x3]) m10_4.row rfl rfl rfl)) ?_
                        refine xl_heavy rfl rfl rfl (hv_call (g := 19) rfl rfl (c19 mp hR hc1 hna1 (by omega) hgi hty (gV A i).w (gV A i).i (gV A i).p (gV A i).x0 (gV A i).x1 (gV A i).x2 (gV A i).x3) rfl) ?_
                        rintro v25_9 H25_9 ⟨a25_9, c25_9, T25_9, hv25_9, hB25_9, hT25_9, hR25_9, hc25_9, hna25_9, ht25_9⟩
                        have hR := hR.offT mp hB25_9 (by first | rfl | assumption)
                        have hQ := hQ.offT mp hB25_9 (by first | rfl | assumption)
                        have m10_4 := m10_4.off hB25_9 (by first | exact nmp_10_4.symm | exact ⟨m10_4.ne mp rfl⟩ | exact ⟨m10_4.ne mp (by assumption)⟩ | exact ⟨Ne.symm (mp.ne m10_4 (by assumption))⟩)
                        have hX := hX.upd hB25_9 gbp
                        have mp := hT25_9
                        obtain ⟨e1, e2⟩ := vst2 (l := (vast (ldB L L.length) A i)) (r := (gV A i)) h21_0 h24_0
                        rw [← e1] at hv25_9
                        rw [← e2] at mp hR25_9 hc25_9 ht25_9
                        subst hv25_9
                        refine xl_pure rfl rfl rfl (pv_assign (v := .int _ _) rfl rfl) ?_
                        refine xl_nil ?_
                        refine xthen_normal ?_
                        refine xc_region ?_
                        refine xl_pure rfl rfl rfl (pv_move (v := .slice _ _ _) rfl rfl) ?_
                        refine xl_pure rfl rfl rfl (pv_fieldAddr rfl rfl) ?_
                        refine xl_light rfl rfl rfl (lv_load (v := .int _ _) rfl rfl (ld_blk m10_4 rfl)) ?_
                        refine xl_pure rfl rfl rfl (pv_fieldAddr rfl rfl) ?_
                        refine xl_light rfl rfl rfl (lv_load (v := .int _ _) rfl rfl (ld_blk m10_4 rfl)) ?_
                        refine xl_pure rfl rfl rfl (pv_fieldAddr rfl rfl) ?_
                        refine xl_light rfl rfl rfl (lv_load (v := .int _ _) rfl rfl (ld_blk m10_4 rfl)) ?_
                        refine xl_pure rfl rfl rfl (pv_fieldAddr rfl rfl) ?_
                        refine xl_light rfl rfl rfl (lv_load (v := .agg _) rfl rfl (by exact ld_part (off := 0) (k := 4) (cs := [.int .i64 (gV A i).x0, .int .i64 (gV A i).x1, .int .i64 (gV A i).x2, .int .i64 (gV A i).x3]) m10_4.row rfl rfl rfl)) ?_
                        refine xl_heavy rfl rfl rfl (hv_call (g := 20) rfl rfl (c20 hQ hgi hlt (gV A i).w (gV A i).i (gV A i).p (gV A i).x0 (gV A i).x1 (gV A i).x2 (gV A i).x3) rfl) ?_
                        rintro v26_9 H26_9 ⟨a26_9, c26_9, hv26_9, hQ26_9, hE26_9⟩
                        have mp := mp.ext hE26_9
                        have hR := hR.ext hE26_9
                        have hQ := hQ.ext hE26_9
                        have m10_4 := m10_4.ext hE26_9
                        have hR25_9 := hR25_9.ext hE26_9
                        have hX := hX.trans hE26_9
                        rw [← e1, ← e2] at hv26_9
                        rw [← e2] at hQ26_9
                        subst hv26_9
                        refine xl_pure rfl rfl rfl (pv_move (v := .tuple _) rfl rfl) ?_
                        refine xl_pure rfl rfl rfl (pv_extract (v := .slice _ _ _) rfl rfl rfl) ?_
                        refine xl_pure rfl rfl rfl (pv_extract (v := .int _ _) rfl rfl rfl) ?_
                        refine xl_pure rfl rfl rfl (pv_assign (v := .slice _ _ _) rfl rfl) ?_
                        refine xl_pure rfl rfl rfl (pv_assign (v := .int _ _) rfl rfl) ?_
                        refine xl_nil ?_
                        refine xblock_normal ?_
                        refine xthen_normal ?_
                        refine xc_seq ?_
                        refine xc_seq ?_
                        refine xc_region ?_
                        refine xl_pure rfl rfl rfl (pv_move (v := .int _ _) rfl rfl) ?_
                        refine xl_pure rfl rfl rfl (pv_move (v := .int _ _) rfl rfl) ?_
                        refine xl_ndec rfl rfl rfl (pv_neq rfl rfl rfl) (fun h27_2 => ?_) (fun h27_2 => ?_)
                        · skip
                          refine xl_pure rfl rfl rfl (pv_move (v := .bool _) rfl rfl) ?_
                          refine xl_pure rfl rfl rfl (pv_move (v := .slice _ _ _) rfl rfl) ?_
                          refine xl_pure rfl rfl rfl (pv_move (v := .slice _ _ _) rfl rfl) ?_
                          refine xl_heavy rfl rfl rfl (hv_call (g := 14) rfl rfl (gSame [] [] none none 0 0 Stks.nil Stks.nil (by decide)) rfl) ?_
                          rintro v27_6 H27_6 ⟨r27_6, rfl, hb27_6, rfl⟩
                          obtain rfl : r27_6 = true := hb27_6.2 rfl
                          refine xl_pure rfl rfl rfl (pv_not rfl rfl) ?_
                          refine xl_pure rfl rfl rfl (pv_pick_f (v := .bool _) rfl rfl rfl) ?_
                          refine xl_pure rfl rfl rfl (pv_move (v := .bool _) rfl rfl) ?_
                          refine xl_pure rfl rfl rfl (pv_move (v := .pointer _) rfl rfl) ?_
                          refine xl_heavy rfl rfl rfl (hv_call (g := 24) rfl rfl (c24 mp hR25_9 hc25_9 hna25_9 hltn) rfl) ?_
                          rintro v27_11 H27_11 ⟨a27_11, c27_11, rfl, hQ27_11, hE27_11⟩
                          have mp := mp.ext hE27_11
                          have hR := hR.ext hE27_11
                          have hQ := hQ.ext hE27_11
                          have m10_4 := m10_4.ext hE27_11
                          have hR25_9 := hR25_9.ext hE27_11
                          have hQ26_9 := hQ26_9.ext hE27_11
                          have hX := hX.trans hE27_11
                          refine xl_pure rfl rfl rfl (pv_move (v := .slice _ _ _) rfl rfl) ?_
                          refine xl_heavy rfl rfl rfl (hv_call (g := 23) rfl rfl (c23 (vstX (vast (ldB L L.length) A i) (gV A i)) (vstX (vast (ldB L L.length) A i) (gV A i)) _ _ _ _ hQ27_11.rows hQ26_9.rows (by omega)) rfl) ?_
                          rintro v27_13 H27_13 ⟨r27_13, rfl, hb27_13, rfl⟩
                          obtain rfl : r27_13 = true := hb27_13.2 rfl
                          refine xl_pure rfl rfl rfl (pv_not rfl rfl) ?_
                          refine xl_pure rfl rfl rfl (pv_pick_f (v := .bool _) rfl rfl rfl) ?_
                          refine xl_nil ?_
                          refine xthen_normal ?_
                          refine xc_cond_f rfl ?_
                          refine xc_skip ?_
                          refine xthen_normal ?_
                          refine xc_region ?_
                          refine xl_pure rfl rfl rfl (pv_move (v := .slice _ _ _) rfl rfl) ?_
                          refine xl_pure rfl rfl rfl (pv_assign (v := .slice _ _ _) rfl rfl) ?_
                          refine xl_nil ?_
                          refine xblock_normal ?_
                          refine xthen_normal ?_
                          refine xc_region ?_
                          refine xl_pure rfl rfl rfl (pv_move (v := .int _ _) rfl rfl) ?_
                          refine xl_pure rfl rfl rfl (pv_add rfl rfl rfl (fit_i64 (by omega))) ?_
                          refine xl_pure rfl rfl rfl (pv_assign (v := .int _ _) rfl rfl) ?_
                          refine xl_nil ?_
                          refine xthen_normal ?_
                          first
                            | exact ⟨(i + 1, _, _, _, _, _), ⟨rfl, rfl, rfl, rfl, rfl, trivial⟩, ⟨by (try simp only); omega, mp, hR22_9, hc22_9, hna22_9, ht22_9, hQ23_9, hX⟩, by (try simp only); omega⟩
                            | exact ⟨(i + 1, _, _, _, _, _), ⟨rfl, rfl, rfl, rfl, rfl, trivial⟩, ⟨by (try simp only); omega, mp, hR25_9, hc25_9, hna25_9, ht25_9, hQ26_9, hX⟩, by (try simp only); omega⟩
                            | exact ⟨(i + 1, _, _, _, _, _), ⟨rfl, rfl, rfl, rfl, rfl, trivial⟩, ⟨by (try simp only); omega, mp, hR19_7, hc19_7, hna19_7, ht19_7, hQ20_7, hX⟩, by (try simp only); omega⟩
                        · exact absurd rfl h27_2
                      · skip
                        refine xl_pure rfl rfl rfl (pv_assign (v := .bool _) rfl rfl) ?_
                        refine xl_nil ?_
                        refine xthen_normal ?_
                        refine xc_cond_f rfl ?_
                        refine xc_seq ?_
                        refine xc_region ?_
                        refine xl_pure rfl rfl rfl (pv_move (v := .pointer _) rfl rfl) ?_
                        refine xl_pure rfl rfl rfl (pv_fieldAddr rfl rfl) ?_
                        refine xl_light rfl rfl rfl (lv_load (v := .int _ _) rfl rfl (ld_blk m10_4 rfl)) ?_
                        refine xl_pure rfl rfl rfl (pv_fieldAddr rfl rfl) ?_
                        refine xl_light rfl rfl rfl (lv_load (v := .int _ _) rfl rfl (ld_blk m10_4 rfl)) ?_
                        refine xl_pure rfl rfl rfl (pv_fieldAddr rfl rfl) ?_
                        refine xl_light rfl rfl rfl (lv_load (v := .int _ _) rfl rfl (ld_blk m10_4 rfl)) ?_
                        refine xl_heavy rfl rfl rfl (hv_call (g := 21) rfl rfl (c21 mp hR hc1 hna1 (by omega) hgi hty (gV A i).w (gV A i).i (gV A i).p) rfl) ?_
                        rintro v19_7 H19_7 ⟨qa, qc, a19_7, c19_7, T19_7, hv19_7, hS19_7, hB19_7, hT19_7, hR19_7, hc19_7, hna19_7, ht19_7⟩
                        have hR := hR.offT mp hB19_7 (by first | rfl | assumption)
                        have hQ := hQ.offT mp hB19_7 (by first | rfl | assumption)
                        have m10_4 := m10_4.off hB19_7 (by first | exact nmp_10_4.symm | exact ⟨m10_4.ne mp rfl⟩ | exact ⟨m10_4.ne mp (by assumption)⟩ | exact ⟨Ne.symm (mp.ne m10_4 (by assumption))⟩)
                        have hX := hX.upd hB19_7 gbp
                        have mp := hT19_7
                        obtain ⟨e1, e2⟩ := vst3 (l := (vast (ldB L L.length) A i)) (r := (gV A i)) h21_0 h24_0
                        rw [← e1] at hv19_7
                        rw [← e2] at mp hR19_7 hc19_7 ht19_7
                        subst hv19_7
                        refine xl_pure rfl rfl rfl (pv_move (v := .tuple _) rfl rfl) ?_
                        refine xl_pure rfl rfl rfl (pv_extract (v := .slice _ _ _) rfl rfl rfl) ?_
                        refine xl_pure rfl rfl rfl (pv_extract (v := .int _ _) rfl rfl rfl) ?_
                        refine xl_pure rfl rfl rfl (pv_assign (v := .slice _ _ _) rfl rfl) ?_
                        refine xl_pure rfl rfl rfl (pv_assign (v := .int _ _) rfl rfl) ?_
                        refine xl_nil ?_
                        refine xthen_normal ?_
                        refine xc_region ?_
                        refine xl_pure rfl rfl rfl (pv_move (v := .slice _ _ _) rfl rfl) ?_
                        refine xl_pure rfl rfl rfl (pv_fieldAddr rfl rfl) ?_
                        refine xl_light rfl rfl rfl (lv_load (v := .int _ _) rfl rfl (ld_blk m10_4 rfl)) ?_
                        refine xl_pure rfl rfl rfl (pv_fieldAddr rfl rfl) ?_
                        refine xl_light rfl rfl rfl (lv_load (v := .int _ _) rfl rfl (ld_blk m10_4 rfl)) ?_
                        refine xl_pure rfl rfl rfl (pv_fieldAddr rfl rfl) ?_
                        refine xl_light rfl rfl rfl (lv_load (v := .int _ _) rfl rfl (ld_blk m10_4 rfl)) ?_
                        refine xl_heavy rfl rfl rfl (hv_call (g := 22) rfl rfl (c22 hQ hgi (by omega) (gV A i).w (gV A i).i (gV A i).p) rfl) ?_
                        rintro v20_7 H20_7 ⟨a20_7, c20_7, pa, pc, hv20_7, hQ20_7, hS20_7, hE20_7⟩
                        have mp := mp.ext hE20_7
                        have hR := hR.ext hE20_7
                        have hQ := hQ.ext hE20_7
                        have m10_4 := m10_4.ext hE20_7
                        have hR19_7 := hR19_7.ext hE20_7
                        have hS19_7 := hS19_7.ext hE20_7
                        have hX := hX.trans hE20_7
                        rw [← e1, ← e2] at hv20_7
                        rw [← e2] at hQ20_7
                        subst hv20_7
                        refine xl_pure rfl rfl rfl (pv_move (v := .tuple _) rfl rfl) ?_
                        refine xl_pure rfl rfl rfl (pv_extract (v := .slice _ _ _) rfl rfl rfl) ?_
                        refine xl_pure rfl rfl rfl (pv_extract (v := .slice _ _ _) rfl rfl rfl) ?_
                        refine xl_pure rfl rfl rfl (pv_extract (v := .int _ _) rfl rfl rfl) ?_
                        refine xl_pure rfl rfl rfl (pv_assign (v := .slice _ _ _) rfl rfl) ?_
                        refine xl_pure rfl rfl rfl (pv_assign (v := .slice _ _ _) rfl rfl) ?_
                        refine xl_pure rfl rfl rfl (pv_assign (v := .int _ _) rfl rfl) ?_
                        refine xl_nil ?_
                        refine xblock_normal ?_
                        refine xthen_normal ?_
                        refine xc_seq ?_
                        refine xc_seq ?_
                        refine xc_region ?_
                        refine xl_pure rfl rfl rfl (pv_move (v := .int _ _) rfl rfl) ?_
                        refine xl_pure rfl rfl rfl (pv_move (v := .int _ _) rfl rfl) ?_
                        refine xl_ndec rfl rfl rfl (pv_neq rfl rfl rfl) (fun h27_2 => ?_) (fun h27_2 => ?_)
                        · skip
                          refine xl_pure rfl rfl rfl (pv_move (v := .bool _) rfl rfl) ?_
                          refine xl_pure rfl rfl rfl (pv_move (v := .slice _ _ _) rfl rfl) ?_
                          refine xl_pure rfl rfl rfl (pv_move (v := .slice _ _ _) rfl rfl) ?_
                          refine xl_heavy rfl rfl rfl (hv_call (g := 14) rfl rfl (gSame _ _ _ _ _ _ hS19_7.st hS20_7 (by have := (goo_co32 (w := (gV A i).w) (i := (gV A i).i) (p := (gV A i).p) hgi).2.2; omega)) rfl) ?_
                          rintro v27_6 H27_6 ⟨r27_6, rfl, hb27_6, rfl⟩
                          obtain rfl : r27_6 = true := hb27_6.2 rfl
                          refine xl_pure rfl rfl rfl (pv_not rfl rfl) ?_
                          refine xl_pure rfl rfl rfl (pv_pick_f (v := .bool _) rfl rfl rfl) ?_
                          refine xl_pure rfl rfl rfl (pv_move (v := .bool _) rfl rfl) ?_
                          refine xl_pure rfl rfl rfl (pv_move (v := .pointer _) rfl rfl) ?_
                          refine xl_heavy rfl rfl rfl (hv_call (g := 24) rfl rfl (c24 mp hR19_7 hc19_7 hna19_7 hltn) rfl) ?_
                          rintro v27_11 H27_11 ⟨a27_11, c27_11, rfl, hQ27_11, hE27_11⟩
                          have mp := mp.ext hE27_11
                          have hR := hR.ext hE27_11
                          have hQ := hQ.ext hE27_11
                          have m10_4 := m10_4.ext hE27_11
                          have hR19_7 := hR19_7.ext hE27_11
                          have hS19_7 := hS19_7.ext hE27_11
                          have hQ20_7 := hQ20_7.ext hE27_11
                          have hS20_7 := hS20_7.ext hE27_11
                          have hX := hX.trans hE27_11
                          refine xl_pure rfl rfl rfl (pv_move (v := .slice _ _ _) rfl rfl) ?_
                          refine xl_heavy rfl rfl rfl (hv_call (g := 23) rfl rfl (c23 (vstX (vast (ldB L L.length) A i) (gV A i)) (vstX (vast (ldB L L.length) A i) (gV A i)) _ _ _ _ hQ27_11.rows hQ20_7.rows (by omega)) rfl) ?_
                          rintro v27_13 H27_13 ⟨r27_13, rfl, hb27_13, rfl⟩
                          obtain rfl : r27_13 = true := hb27_13.2 rfl
                          refine xl_pure rfl rfl rfl (pv_not rfl rfl) ?_
                          refine xl_pure rfl rfl rfl (pv_pick_f (v := .bool _) rfl rfl rfl) ?_
                          refine xl_nil ?_
                          refine xthen_normal ?_
                          refine xc_cond_f rfl ?_
                          refine xc_skip ?_
                          refine xthen_normal ?_
                          refine xc_region ?_
                          refine xl_pure rfl rfl rfl (pv_move (v := .slice _ _ _) rfl rfl) ?_
                          refine xl_pure rfl rfl rfl (pv_assign (v := .slice _ _ _) rfl rfl) ?_
                          refine xl_nil ?_
                          refine xblock_normal ?_
                          refine xthen_normal ?_
                          refine xc_region ?_
                          refine xl_pure rfl rfl rfl (pv_move (v := .int _ _) rfl rfl) ?_
                          refine xl_pure rfl rfl rfl (pv_add rfl rfl rfl (fit_i64 (by omega))) ?_
                          refine xl_pure rfl rfl rfl (pv_assign (v := .int _ _) rfl rfl) ?_
                          refine xl_nil ?_
                          refine xthen_normal ?_
                          first
                            | exact ⟨(i + 1, _, _, _, _, _), ⟨rfl, rfl, rfl, rfl, rfl, trivial⟩, ⟨by (try simp only); omega, mp, hR22_9, hc22_9, hna22_9, ht22_9, hQ23_9, hX⟩, by (try simp only); omega⟩
                            | exact ⟨(i + 1, _, _, _, _, _), ⟨rfl, rfl, rfl, rfl, rfl, trivial⟩, ⟨by (try simp only); omega, mp, hR25_9, hc25_9, hna25_9, ht25_9, hQ26_9, hX⟩, by (try simp only); omega⟩
                            | exact ⟨(i + 1, _, _, _, _, _), ⟨rfl, rfl, rfl, rfl, rfl, trivial⟩, ⟨by (try simp only); omega, mp, hR19_7, hc19_7, hna19_7, ht19_7, hQ20_7, hX⟩, by (try simp only); omega⟩
                        · exact absurd rfl h27_2
                · exact absurd rfl h8_6
              · skip
                refine xl_pure rfl rfl rfl (pv_move (v := .bool _) rfl rfl) ?_
                refine xl_skip rfl rfl rfl ?_
                refine xl_skip rfl rfl rfl ?_
                refine xl_pure rfl rfl rfl (pv_pick_f (v := .bool _) rfl rfl rfl) ?_
                refine xl_nil ?_
                refine xthen_normal ?_
                refine xc_cond_f rfl ?_
                refine xc_exit ?_
                refine xthen_exit ?_
                refine xthen_exit ?_
                refine xblock_same ?_
                refine xthen_normal ?_
                refine xc_seq ?_
                refine xc_region ?_
                refine xl_heavy rfl rfl rfl (hv_call (g := 11) rfl rfl (c11) rfl) ?_
                rintro v30_0 H30_0 ⟨rfl, hE30_0⟩
                have mp := mp.ext hE30_0
                have hR := hR.ext hE30_0
                have hQ := hQ.ext hE30_0
                have hX := hX.trans hE30_0
                refine xl_pure rfl rfl rfl (pv_assign (v := .bool _) rfl rfl) ?_
                refine xl_nil ?_
                refine xthen_normal ?_
                refine xc_ret ?_
                refine fin_ret (res1 (v := .bool _) rfl rfl) ?_
                exact ⟨rfl, hX⟩
          · exact absurd rfl h5_7
        · exact absurd rfl h5_2
      · skip
        refine xl_pure rfl rfl rfl (pv_move (v := .tuple _) rfl rfl) ?_
        refine xl_pure rfl rfl rfl (pv_extract (v := .pointer _) rfl rfl rfl) ?_
        refine xl_pure rfl rfl rfl (pv_extract (v := .int _ _) rfl rfl rfl) ?_
        refine xl_pure rfl rfl rfl (pv_assign (v := .pointer _) rfl rfl) ?_
        refine xl_pure rfl rfl rfl (pv_assign (v := .int _ _) rfl rfl) ?_
        refine xl_nil ?_
        refine xthen_normal ?_
        refine xc_seq ?_
        refine xc_region ?_
        refine xl_pure rfl rfl rfl (pv_move (v := .slice _ _ _) rfl rfl) ?_
        refine xl_heavy rfl rfl rfl (hv_call (g := 13) rfl rfl (c13 (hL.ext hX) (by omega)) rfl) ?_
        rintro v4_1 H4_1 ⟨e4_1, hl4_1, hv4_1, hE4_1⟩
        have hX := hX.trans hE4_1
        have he4_1 := hl4_1.uniq hl3_1
        rw [he4_1] at hv4_1
        obtain rfl : v4_1 = .tuple #[.slice none 0 0, .int .i64 e3_1] := by rcases hv4_1 with ⟨h, _⟩ | ⟨_, h⟩; exact absurd h hne; exact h
        refine xl_pure rfl rfl rfl (pv_move (v := .tuple _) rfl rfl) ?_
        refine xl_pure rfl rfl rfl (pv_extract (v := .slice _ _ _) rfl rfl rfl) ?_
        refine xl_pure rfl rfl rfl (pv_extract (v := .int _ _) rfl rfl rfl) ?_
        refine xl_pure rfl rfl rfl (pv_assign (v := .slice _ _ _) rfl rfl) ?_
        refine xl_pure rfl rfl rfl (pv_assign (v := .int _ _) rfl rfl) ?_
        refine xl_nil ?_
        refine xthen_normal ?_
        refine xc_seq ?_
        refine xc_seq ?_
        refine xc_region ?_
        refine xl_pure rfl rfl rfl (pv_move (v := .int _ _) rfl rfl) ?_
        refine xl_pure rfl rfl rfl (pv_move (v := .int _ _) rfl rfl) ?_
        refine xl_ndec rfl rfl rfl (pv_neq rfl rfl rfl) (fun h5_2 => ?_) (fun h5_2 => ?_)
        · skip
          refine xl_pure rfl rfl rfl (pv_move (v := .bool _) rfl rfl) ?_
          refine xl_pure rfl rfl rfl (pv_move (v := .pointer _) rfl rfl) ?_
          refine xl_pure rfl rfl rfl (pv_neq_nn rfl rfl rfl) ?_
          refine xl_pure rfl rfl rfl (pv_move (v := .int _ _) rfl rfl) ?_
          refine xl_dec rfl rfl rfl (pv_eql rfl rfl rfl) (fun h5_7 => ?_) (fun h5_7 => ?_)
          · exact absurd h5_7 hne
          · skip
            refine xl_pure rfl rfl rfl (pv_neq_b rfl rfl rfl) ?_
            refine xl_pure rfl rfl rfl (pv_pick_f (v := .bool _) rfl rfl rfl) ?_
            refine xl_nil ?_
            refine xthen_normal ?_
            refine xc_cond_f rfl ?_
            refine xc_skip ?_
            refine xthen_normal ?_
            refine xc_seq ?_
            refine xc_seq ?_
            refine xc_region ?_
            refine xl_pure rfl rfl rfl (pv_assign (v := .int _ _) rfl rfl) ?_
            refine xl_nil ?_
            refine xthen_normal ?_
            refine xc_block ?_
            refine xc_loop (τ := Unit) (fun t => [(1, .slice aA A.length cA), (5, .pointer none), (6, .int .i64 e3_1), (7, .slice none 0 0), (9, .int .i64 0)]) (fun t H' => (True) ∧ (Ext H H')) (fun t H' => 0) () ?_ ?_ ?_
            · exact ⟨rfl, rfl, rfl, rfl, rfl, trivial⟩
            · skip
              exact ⟨trivial, hX⟩
            · intro σ
              clear hX
              rintro t Hl8 ⟨hT, hX⟩
              replace hT : True := hT
              replace hX : Ext H Hl8 := hX
              show XC _ _ _ (upds σ [(1, .slice aA A.length cA), (5, .pointer none), (6, .int .i64 e3_1), (7, .slice none 0 0), (9, .int .i64 0)]) _
              refine xc_seq ?_
              refine xc_seq ?_
              refine xc_region ?_
              refine xl_pure rfl rfl rfl (pv_move (v := .int _ _) rfl rfl) ?_
              refine xl_pure rfl rfl rfl (pv_move (v := .slice _ _ _) rfl rfl) ?_
              refine xl_pure rfl rfl rfl (pv_len_l rfl rfl) ?_
              refine xl_dec rfl rfl rfl (pv_lss rfl rfl rfl) (fun h8_3 => ?_) (fun h8_3 => ?_)
              · skip
                refine xl_pure rfl rfl rfl (pv_move (v := .bool _) rfl rfl) ?_
                refine xl_pure rfl rfl rfl (pv_move (v := .int _ _) rfl rfl) ?_
                refine xl_dec rfl rfl rfl (pv_eql rfl rfl rfl) (fun h8_6 => ?_) (fun h8_6 => ?_)
                · exact absurd h8_6 hne
                · skip
                  refine xl_pure rfl rfl rfl (pv_pick_t (v := .bool _) rfl rfl rfl) ?_
                  refine xl_nil ?_
                  refine xthen_normal ?_
                  refine xc_cond_f rfl ?_
                  refine xc_exit ?_
                  refine xthen_exit ?_
                  refine xthen_exit ?_
                  refine xblock_same ?_
                  refine xthen_normal ?_
                  refine xc_seq ?_
                  refine xc_region ?_
                  refine xl_heavy rfl rfl rfl (hv_call (g := 11) rfl rfl (c11) rfl) ?_
                  rintro v30_0 H30_0 ⟨rfl, hE30_0⟩
                  have hX := hX.trans hE30_0
                  refine xl_pure rfl rfl rfl (pv_assign (v := .bool _) rfl rfl) ?_
                  refine xl_nil ?_
                  refine xthen_normal ?_
                  refine xc_ret ?_
                  refine fin_ret (res1 (v := .bool _) rfl rfl) ?_
                  exact ⟨rfl, hX⟩
              · skip
                refine xl_pure rfl rfl rfl (pv_move (v := .bool _) rfl rfl) ?_
                refine xl_skip rfl rfl rfl ?_
                refine xl_skip rfl rfl rfl ?_
                refine xl_pure rfl rfl rfl (pv_pick_f (v := .bool _) rfl rfl rfl) ?_
                refine xl_nil ?_
                refine xthen_normal ?_
                refine xc_cond_f rfl ?_
                refine xc_exit ?_
                refine xthen_exit ?_
                refine xthen_exit ?_
                refine xblock_same ?_
                refine xthen_normal ?_
                refine xc_seq ?_
                refine xc_region ?_
                refine xl_heavy rfl rfl rfl (hv_call (g := 11) rfl rfl (c11) rfl) ?_
                rintro v30_0 H30_0 ⟨rfl, hE30_0⟩
                have hX := hX.trans hE30_0
                refine xl_pure rfl rfl rfl (pv_assign (v := .bool _) rfl rfl) ?_
                refine xl_nil ?_
                refine xthen_normal ?_
                refine xc_ret ?_
                refine fin_ret (res1 (v := .bool _) rfl rfl) ?_
                exact ⟨rfl, hX⟩
        · exact absurd rfl h5_2
end Go.XG
