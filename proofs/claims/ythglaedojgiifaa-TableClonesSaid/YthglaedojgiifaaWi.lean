/-
  Walks of the seat's functions over the logic XG: each function, what it computes. Printed by a program out of wip/walks.py.
-/
import Derived.Test.YthglaedojgiifaaI
import Derived.Test.YthglaedojgiifaaTm
import Derived.Test.YthglaedojgiifaaTa
import Derived.Test.YthglaedojgiifaaTb
import Derived.Test.YthglaedojgiifaaTc
import Derived.Test.YthglaedojgiifaaTd
import Derived.Test.YthglaedojgiifaaTe
import Derived.Test.YthglaedojgiifaaP
import Derived.Test.YthglaedojgiifaaWa
import Derived.Test.YthglaedojgiifaaWb
import Derived.Test.YthglaedojgiifaaWc
import Derived.Test.YthglaedojgiifaaWd
import Derived.Test.YthglaedojgiifaaWe
import Derived.Test.YthglaedojgiifaaWf
import Derived.Test.YthglaedojgiifaaWg
import Derived.Test.YthglaedojgiifaaWh
namespace Go.XG
open Go.Proofs
set_option maxRecDepth 4000
set_option maxHeartbeats 4000000
theorem c5 {O : Outer} {H : Heap} {al : Option Addr} {cl : Nat} {L : List (List Int)} (hL : Rows H al 6 L) :
    FnC Try.prog 5 #[.slice al L.length cl] O H (fun v H' => v = .bool true ∧ Ext H H') := by
  refine fn_enter (A := [.slice al L.length cl]) Try.func5 rfl rfl ?_
  have hX := Ext.refl H
  refine xc_seq ?_
  refine xc_region ?_
  refine xl_pure rfl rfl rfl (pv_assign (v := .bool _) rfl rfl) ?_
  refine xl_nil ?_
  refine xthen_normal ?_
  refine xc_seq ?_
  refine xc_seq ?_
  refine xc_region ?_
  refine xl_pure rfl rfl rfl (pv_move (v := .slice _ _ _) rfl rfl) ?_
  refine xl_pure rfl rfl rfl (pv_len_l rfl rfl) ?_
  refine xl_dec rfl rfl rfl (pv_gtr rfl rfl rfl) (fun h1_2 => ?_) (fun h1_2 => ?_)
  · skip
    refine xl_nil ?_
    refine xthen_normal ?_
    refine xc_cond_t rfl ?_
    refine xc_seq ?_
    refine xc_region ?_
    refine xl_heavy rfl rfl rfl (hv_call (g := 10) rfl rfl (c10) rfl) ?_
    rintro v2_0 H2_0 ⟨rfl, hE2_0⟩
    have hX := hX.trans hE2_0
    refine xl_pure rfl rfl rfl (pv_assign (v := .bool _) rfl rfl) ?_
    refine xl_nil ?_
    refine xthen_normal ?_
    refine xc_ret ?_
    refine xthen_ret ?_
    refine fin_ret (res1 (v := .bool _) rfl rfl) ?_
    exact ⟨rfl, hX⟩
  · skip
    refine xl_nil ?_
    refine xthen_normal ?_
    refine xc_cond_f rfl ?_
    refine xc_skip ?_
    refine xthen_normal ?_
    refine xc_seq ?_
    refine xc_region ?_
    refine xl_pure rfl rfl rfl (pv_build_s (cs := [.slice _ _ _]) rfl rfl rfl) ?_
    refine xl_heavy rfl rfl rfl (hv_box rfl rfl) ?_
    rintro v3_1 H3_1 ⟨b3_1, rfl, hN3_1⟩
    have gb3_1 := hX.fresh hN3_1
    have hX := hX.trans hN3_1.ext
    have m3_1 := hN3_1.blk
    refine xl_pure rfl rfl rfl (pv_assign (v := .pointer _) rfl rfl) ?_
    refine xl_nil ?_
    refine xthen_normal ?_
    refine xc_seq ?_
    refine xc_region ?_
    refine xl_pure rfl rfl rfl (pv_move (v := .pointer _) rfl rfl) ?_
    refine xl_pure rfl rfl rfl (pv_move (v := .slice _ _ _) rfl rfl) ?_
    refine xl_heavy rfl rfl rfl (hv_call (g := 11) rfl rfl (c11 m3_1 (rowsO_new hL (by decide) hX gb3_1.le) (by omega)) rfl) ?_
    rintro v4_2 H4_2 ⟨ax4_2, cx4_2, a4_2, c4_2, rfl, hQ4_2, hcx4_2, hT4_2, hR4_2, hc4_2, hna4_2, hB4_2⟩
    have hX := hX.upd hB4_2 gb3_1
    have m3_1 := hT4_2
    obtain ⟨hpw, hps, hpl⟩ := play_all hL.1
    have hp2 : (playR L).length < 1099511627776 := by omega
    refine xl_pure rfl rfl rfl (pv_move (v := .tuple _) rfl rfl) ?_
    refine xl_pure rfl rfl rfl (pv_extract (v := .slice _ _ _) rfl rfl rfl) ?_
    refine xl_pure rfl rfl rfl (pv_extract (v := .bool _) rfl rfl rfl) ?_
    refine xl_pure rfl rfl rfl (pv_assign (v := .slice _ _ _) rfl rfl) ?_
    refine xl_pure rfl rfl rfl (pv_assign (v := .bool _) rfl rfl) ?_
    refine xl_nil ?_
    refine xthen_normal ?_
    refine xc_seq ?_
    refine xc_seq ?_
    refine xc_region ?_
    refine xl_pure rfl rfl rfl (pv_move (v := .bool _) rfl rfl) ?_
    refine xl_pure rfl rfl rfl (pv_not rfl rfl) ?_
    refine xl_pure rfl rfl rfl (pv_move (v := .bool _) rfl rfl) ?_
    refine xl_pure rfl rfl rfl (pv_move (v := .pointer _) rfl rfl) ?_
    refine xl_heavy rfl rfl rfl (hv_call (g := 14) rfl rfl (c14 m3_1 hR4_2 (rfl : Nat.beq 32 69 = false) hps hc4_2 hna4_2 hp2 rfl rfl) rfl) ?_
    rintro v5_4 H5_4 ⟨a5_4, c5_4, rfl, hA5_4, hE5_4⟩
    have m3_1 := m3_1.ext hE5_4
    have hR4_2 := hR4_2.ext hE5_4
    have hQ4_2 := hQ4_2.ext hE5_4
    have hX := hX.trans hE5_4
    refine xl_pure rfl rfl rfl (pv_move (v := .slice _ _ _) rfl rfl) ?_
    refine xl_heavy rfl rfl rfl (hv_call (g := 13) rfl rfl (c13 (playR L) (playR L) _ _ _ _ hA5_4.rows hQ4_2.rows (by omega)) rfl) ?_
    rintro v5_6 H5_6 ⟨r5_6, rfl, hb5_6, rfl⟩
    obtain rfl : r5_6 = true := hb5_6.2 rfl
    refine xl_pure rfl rfl rfl (pv_not rfl rfl) ?_
    refine xl_pure rfl rfl rfl (pv_pick_f (v := .bool _) rfl rfl rfl) ?_
    refine xl_pure rfl rfl rfl (pv_move (v := .bool _) rfl rfl) ?_
    refine xl_pure rfl rfl rfl (pv_move (v := .pointer _) rfl rfl) ?_
    refine xl_heavy rfl rfl rfl (hv_call (g := 20) rfl rfl (c20 m3_1 hR4_2 (rfl : Nat.beq 32 69 = false) hps hc4_2 hna4_2 hp2 rfl) rfl) ?_
    rintro v5_11 H5_11 ⟨a5_11, c5_11, hv5_11, hK5_11, hE5_11⟩
    have m3_1 := m3_1.ext hE5_11
    have hR4_2 := hR4_2.ext hE5_11
    have hQ4_2 := hQ4_2.ext hE5_11
    have hA5_4 := hA5_4.ext hE5_11
    have hX := hX.trans hE5_11
    obtain rfl : v5_11 = .slice a5_11 ((playR L).map ky).length c5_11 := hv5_11.trans (by rw [List.length_map])
    refine xl_pure rfl rfl rfl (pv_move (v := .slice _ _ _) rfl rfl) ?_
    refine xl_heavy rfl rfl rfl (hv_call (g := 21) rfl rfl (c21 hQ4_2 hp2) rfl) ?_
    rintro v5_13 H5_13 ⟨a5_13, c5_13, hv5_13, hK5_13, hE5_13⟩
    have m3_1 := m3_1.ext hE5_13
    have hR4_2 := hR4_2.ext hE5_13
    have hQ4_2 := hQ4_2.ext hE5_13
    have hA5_4 := hA5_4.ext hE5_13
    have hK5_11 := hK5_11.ext hE5_13
    have hX := hX.trans hE5_13
    obtain rfl : v5_13 = .slice a5_13 ((playR L).map ky).length c5_13 := hv5_13.trans (by rw [List.length_map])
    refine xl_heavy rfl rfl rfl (hv_call (g := 19) rfl rfl (c19 ((playR L).map ky) ((playR L).map ky) _ _ _ _ hK5_11.rows hK5_13.rows (by rw [List.length_map]; omega)) rfl) ?_
    rintro v5_14 H5_14 ⟨r5_14, rfl, hb5_14, rfl⟩
    obtain rfl : r5_14 = true := hb5_14.2 rfl
    refine xl_pure rfl rfl rfl (pv_not rfl rfl) ?_
    refine xl_pure rfl rfl rfl (pv_pick_f (v := .bool _) rfl rfl rfl) ?_
    refine xl_nil ?_
    refine xthen_normal ?_
    refine xc_cond_f rfl ?_
    refine xc_skip ?_
    refine xthen_normal ?_
    refine xc_seq ?_
    refine xc_seq ?_
    refine xc_region ?_
    refine xl_pure rfl rfl rfl (pv_assign (v := .int _ _) rfl rfl) ?_
    refine xl_nil ?_
    refine xthen_normal ?_
    refine xc_block ?_
    refine xc_loop (τ := Int) (fun t => [(3, .pointer (some ⟨b3_1, 0, none⟩)), (4, .slice ax4_2 (playR L).length cx4_2), (6, .int .i64 t)]) (fun t H' => (-1 ≤ t) ∧ (t ≤ (playR L).length + 1) ∧ (Blk H' b3_1 [.slice a4_2 (playR L).length c4_2] 32) ∧ (RowsT H' 69 5 a4_2 (playR L)) ∧ (RowsT H' 52 5 ax4_2 (playR L)) ∧ (Ext H H')) (fun t H' => ((playR L).length + 1 - t).toNat) (-1) ?_ ?_ ?_
    · exact ⟨rfl, rfl, rfl, trivial⟩
    · skip
      exact ⟨by omega, by omega, m3_1, hR4_2, hQ4_2, hX⟩
    · intro σ
      clear hX m3_1 hR4_2 hQ4_2 hA5_4 hK5_11 hK5_13
      rintro i Hl8 ⟨hi, hi2, m3_1, hR4_2, hQ4_2, hX⟩
      replace hi : -1 ≤ i := hi
      replace hi2 : i ≤ (playR L).length + 1 := hi2
      replace m3_1 : Blk Hl8 b3_1 [.slice a4_2 (playR L).length c4_2] 32 := m3_1
      replace hR4_2 : RowsT Hl8 69 5 a4_2 (playR L) := hR4_2
      replace hQ4_2 : RowsT Hl8 52 5 ax4_2 (playR L) := hQ4_2
      replace hX : Ext H Hl8 := hX
      show XC _ _ _ (upds σ [(3, .pointer (some ⟨b3_1, 0, none⟩)), (4, .slice ax4_2 (playR L).length cx4_2), (6, .int .i64 i)]) _
      refine xc_seq ?_
      refine xc_seq ?_
      refine xc_region ?_
      refine xl_pure rfl rfl rfl (pv_move (v := .int _ _) rfl rfl) ?_
      refine xl_pure rfl rfl rfl (pv_move (v := .slice _ _ _) rfl rfl) ?_
      refine xl_pure rfl rfl rfl (pv_len_l rfl rfl) ?_
      refine xl_dec rfl rfl rfl (pv_leq rfl rfl rfl) (fun h8_3 => ?_) (fun h8_3 => ?_)
      · skip
        refine xl_nil ?_
        refine xthen_normal ?_
        refine xc_cond_t rfl ?_
        refine xc_skip ?_
        refine xthen_normal ?_
        refine xc_seq ?_
        refine xc_block ?_
        refine xc_seq ?_
        refine xc_region ?_
        refine xl_pure rfl rfl rfl (pv_move (v := .pointer _) rfl rfl) ?_
        refine xl_pure rfl rfl rfl (pv_move (v := .int _ _) rfl rfl) ?_
        refine xl_heavy rfl rfl rfl (hv_call (g := 22) rfl rfl (c22 m3_1 hR4_2 (rfl : Nat.beq 32 69 = false) hps hc4_2 hna4_2 hp2 i) rfl) ?_
        rintro v10_2 H10_2 ⟨hv10_2, hE10_2⟩
        have m3_1 := m3_1.ext hE10_2
        have hR4_2 := hR4_2.ext hE10_2
        have hQ4_2 := hQ4_2.ext hE10_2
        have hX := hX.trans hE10_2
        rcases hv10_2 with ⟨hge, hlt, rfl⟩ | ⟨hno, rfl⟩
        · skip
          refine xl_pure rfl rfl rfl (pv_move (v := .tuple _) rfl rfl) ?_
          refine xl_pure rfl rfl rfl (pv_extract (v := .agg _) rfl rfl rfl) ?_
          refine xl_pure rfl rfl rfl (pv_extract (v := .int _ _) rfl rfl rfl) ?_
          refine xl_pure rfl rfl rfl (pv_extract (v := .bool _) rfl rfl rfl) ?_
          try have hgl := hpw.get (show i.toNat < (playR L).length by omega)
          refine xl_heavy rfl rfl rfl (hv_alloc rfl rfl) ?_
          rintro v10_7 H10_7 ⟨b10_7, rfl, hN10_7⟩
          have gb10_7 := hX.fresh hN10_7
          have nm3_1_10_7 := m3_1.apart hN10_7
          have m3_1 := m3_1.ext hN10_7.ext
          have hR4_2 := hR4_2.ext hN10_7.ext
          have hQ4_2 := hQ4_2.ext hN10_7.ext
          have hX := hX.trans hN10_7.ext
          have m10_7 := hN10_7.blk
          refine xl_store rfl rfl (hv_storeA (vs := ints (ky (gr (playR L) i.toNat))) rfl rfl rfl (m10_7) (ints_ten (ky_len hgl (by decide))) (by rfl) (ints_one _)) ?_
          rintro v10_8 H10_8 ⟨hU10_8, hZ10_8⟩
          have m3_1 := m3_1.off hU10_8.but (by first | exact nm3_1_10_7 | exact ⟨m3_1.ne m10_7 rfl⟩ | exact ⟨m3_1.ne m10_7 (by assumption)⟩ | exact ⟨Ne.symm (m10_7.ne m3_1 (by assumption))⟩)
          have hR4_2 := hR4_2.offT m10_7 hU10_8.but (by first | rfl | assumption)
          have hQ4_2 := hQ4_2.offT m10_7 hU10_8.but (by first | rfl | assumption)
          have hX := hX.upd hU10_8.but gb10_7
          have m10_7 := hU10_8.blk
          refine xl_pure rfl rfl rfl (pv_assign (v := .int _ _) rfl rfl) ?_
          refine xl_pure rfl rfl rfl (pv_assign (v := .bool _) rfl rfl) ?_
          refine xl_nil ?_
          refine xthen_normal ?_
          refine xc_seq ?_
          refine xc_region ?_
          refine xl_pure rfl rfl rfl (pv_move (v := .int _ _) rfl rfl) ?_
          refine xl_dec rfl rfl rfl (pv_geq rfl rfl rfl) (fun h11_1 => ?_) (fun h11_1 => ?_)
          · first
            | (exfalso; omega)
            |  (skip
                refine xl_pure rfl rfl rfl (pv_move (v := .bool _) rfl rfl) ?_
                refine xl_pure rfl rfl rfl (pv_move (v := .int _ _) rfl rfl) ?_
                refine xl_pure rfl rfl rfl (pv_move (v := .slice _ _ _) rfl rfl) ?_
                refine xl_pure rfl rfl rfl (pv_len_l rfl rfl) ?_
                refine xl_dec rfl rfl rfl (pv_lss rfl rfl rfl) (fun h11_6 => ?_) (fun h11_6 => ?_)
                · first
                  | (exfalso; omega)
                  |  (skip
                      refine xl_pure rfl rfl rfl (pv_pick_t (v := .bool _) rfl rfl rfl) ?_
                      refine xl_pure rfl rfl rfl (pv_assign (v := .bool _) rfl rfl) ?_
                      refine xl_nil ?_
                      refine xthen_normal ?_
                      refine xc_seq ?_
                      obtain ⟨bx, ofx, hxe⟩ := hQ4_2.at
                      refine xp_start rfl (by repeat (first | with_reducible exact np_fin | with_reducible refine np_then ?_ | with_reducible refine np_block ?_)) (by kernel_rfl) ?_
                      refine xp_pure (i := 0) rfl (by kernel_rfl) (by kernel_rfl) rfl rfl rfl (pv_move (v := .bool _) rfl rfl) ?_
                      refine xp_pure (i := 1) rfl (by kernel_rfl) (by kernel_rfl) rfl rfl rfl (pv_move (v := .bool _) rfl rfl) ?_
                      refine xp_pure (i := 2) rfl (by kernel_rfl) (by kernel_rfl) rfl rfl rfl (pv_neq_b rfl rfl rfl) ?_
                      refine xp_pure (i := 3) rfl (by kernel_rfl) (by kernel_rfl) rfl rfl rfl (pv_move (v := .bool _) rfl rfl) ?_
                      refine xp_pure (i := 4) rfl (by kernel_rfl) (by kernel_rfl) rfl rfl rfl (pv_move (v := .bool _) rfl rfl) ?_
                      refine xp_pure (i := 5) rfl (by kernel_rfl) (by kernel_rfl) rfl rfl rfl (pv_move (v := .bool _) rfl rfl) ?_
                      refine xp_light (i := 6) rfl (by kernel_rfl) (by kernel_rfl) rfl rfl rfl (lv_load (v := .agg _) rfl rfl (ld_ints m10_7 (ky_len hgl (by decide)))) ?_
                      refine xp_pure (i := 7) rfl (by kernel_rfl) (by kernel_rfl) rfl rfl rfl (pv_move (v := .int _ _) rfl rfl) ?_
                      refine xp_pure (i := 8) rfl (by kernel_rfl) (by kernel_rfl) rfl rfl rfl (pv_build_pair (xs := ints (ky (gr (playR L) i.toNat))) (ys := [.int .i64 ((gr (playR L) i.toNat).getD 4 0)]) rfl rfl rfl rfl rfl (by rw [ints_ten (ky_len hgl (by decide))]; rfl) (by rw [ints_ten (ky_len hgl (by decide))]; rfl) (by rw [ints_ten (ky_len hgl (by decide))]; rfl)) ?_
                      refine xp_pure (i := 9) rfl (by kernel_rfl) (by kernel_rfl) rfl rfl rfl (pv_move (v := .slice _ _ _) rfl rfl) ?_
                      refine xp_pure (i := 10) rfl (by kernel_rfl) (by kernel_rfl) rfl rfl rfl (pv_move (v := .int _ _) rfl rfl) ?_
                      refine xp_pure (i := 11) rfl (by kernel_rfl) (by kernel_rfl) rfl rfl rfl (pv_indexAddr_l rfl (sl_eq (hxe (by omega)).1) rfl (by omega)) ?_
                      refine xp_light (i := 12) rfl (by kernel_rfl) (by kernel_rfl) rfl rfl rfl (lv_load (v := .agg _) rfl rfl (by exact ld_row' (hxe (by omega)).2 hpw (by omega))) ?_
                      refine xp_ndec (i := 13) rfl (by kernel_rfl) (by kernel_rfl) rfl rfl rfl (pv_neq_g (gr (playR L) i.toNat) (gr (playR L) i.toNat) rfl (congrArg (fun z : List Value => Value.agg z.toArray) (row_pair hgl)) rfl hgl hgl) (fun h12_13 => ?_) (fun h12_13 => ?_)
                      · skip
                        refine xp_pure (i := 14) rfl (by kernel_rfl) (by kernel_rfl) rfl rfl rfl (pv_pick_t (v := .bool _) rfl rfl rfl) ?_
                        refine xp_pure (i := 15) rfl (by kernel_rfl) (by kernel_rfl) rfl rfl rfl (pv_pick_f (v := .bool _) rfl rfl rfl) ?_
                        refine xp_pure (i := 16) rfl (by kernel_rfl) (by kernel_rfl) rfl rfl rfl (pv_move (v := .bool _) rfl rfl) ?_
                        refine xp_pure (i := 17) rfl (by kernel_rfl) (by kernel_rfl) rfl rfl rfl (pv_move (v := .bool _) rfl rfl) ?_
                        refine xp_pure (i := 18) rfl (by kernel_rfl) (by kernel_rfl) rfl rfl rfl (pv_not rfl rfl) ?_
                        refine xp_pure (i := 19) rfl (by kernel_rfl) (by kernel_rfl) rfl rfl rfl (pv_move (v := .bool _) rfl rfl) ?_
                        refine xp_skip (i := 20) rfl (by kernel_rfl) (by kernel_rfl) rfl rfl rfl ?_
                        refine xp_skip (i := 21) rfl (by kernel_rfl) (by kernel_rfl) rfl rfl rfl ?_
                        refine xp_skip (i := 22) rfl (by kernel_rfl) (by kernel_rfl) rfl rfl rfl ?_
                        refine xp_skip (i := 23) rfl (by kernel_rfl) (by kernel_rfl) rfl rfl rfl ?_
                        refine xp_skip (i := 24) rfl (by kernel_rfl) (by kernel_rfl) rfl rfl rfl ?_
                        refine xp_skip (i := 25) rfl (by kernel_rfl) (by kernel_rfl) rfl rfl rfl ?_
                        refine xp_skip (i := 26) rfl (by kernel_rfl) (by kernel_rfl) rfl rfl rfl ?_
                        refine xp_pure (i := 27) rfl (by kernel_rfl) (by kernel_rfl) rfl rfl rfl (pv_pick_f (v := .bool _) rfl rfl rfl) ?_
                        refine xp_pure (i := 28) rfl (by kernel_rfl) (by kernel_rfl) rfl rfl rfl (pv_pick_f (v := .bool _) rfl rfl rfl) ?_
                        refine xp_done (by kernel_rfl) ?_
                        refine xthen_normal ?_
                        refine xc_cond_f rfl ?_
                        refine xc_skip ?_
                        refine xblock_normal ?_
                        refine xthen_normal ?_
                        refine xc_region ?_
                        refine xl_pure rfl rfl rfl (pv_move (v := .int _ _) rfl rfl) ?_
                        refine xl_pure rfl rfl rfl (pv_add rfl rfl rfl (fit_i64 (by omega))) ?_
                        refine xl_pure rfl rfl rfl (pv_assign (v := .int _ _) rfl rfl) ?_
                        refine xl_nil ?_
                        refine xthen_normal ?_
                        exact ⟨i + 1, ⟨rfl, rfl, rfl, trivial⟩, ⟨by (try simp only); omega, by (try simp only); omega, m3_1, hR4_2, hQ4_2, hX⟩, by (try simp only); omega⟩
                      · exact absurd rfl h12_13)
                · first
                  | (exfalso; omega)
                  |  (skip
                      refine xl_pure rfl rfl rfl (pv_pick_t (v := .bool _) rfl rfl rfl) ?_
                      refine xl_pure rfl rfl rfl (pv_assign (v := .bool _) rfl rfl) ?_
                      refine xl_nil ?_
                      refine xthen_normal ?_
                      refine xc_seq ?_
                      obtain ⟨bx, ofx, hxe⟩ := hQ4_2.at
                      refine xp_start rfl (by repeat (first | with_reducible exact np_fin | with_reducible refine np_then ?_ | with_reducible refine np_block ?_)) (by kernel_rfl) ?_
                      refine xp_pure (i := 0) rfl (by kernel_rfl) (by kernel_rfl) rfl rfl rfl (pv_move (v := .bool _) rfl rfl) ?_
                      refine xp_pure (i := 1) rfl (by kernel_rfl) (by kernel_rfl) rfl rfl rfl (pv_move (v := .bool _) rfl rfl) ?_
                      refine xp_pure (i := 2) rfl (by kernel_rfl) (by kernel_rfl) rfl rfl rfl (pv_neq_b rfl rfl rfl) ?_
                      refine xp_pure (i := 3) rfl (by kernel_rfl) (by kernel_rfl) rfl rfl rfl (pv_move (v := .bool _) rfl rfl) ?_
                      refine xp_skip (i := 4) rfl (by kernel_rfl) (by kernel_rfl) rfl rfl rfl ?_
                      refine xp_skip (i := 5) rfl (by kernel_rfl) (by kernel_rfl) rfl rfl rfl ?_
                      refine xp_skip (i := 6) rfl (by kernel_rfl) (by kernel_rfl) rfl rfl rfl ?_
                      refine xp_skip (i := 7) rfl (by kernel_rfl) (by kernel_rfl) rfl rfl rfl ?_
                      refine xp_skip (i := 8) rfl (by kernel_rfl) (by kernel_rfl) rfl rfl rfl ?_
                      refine xp_skip (i := 9) rfl (by kernel_rfl) (by kernel_rfl) rfl rfl rfl ?_
                      refine xp_skip (i := 10) rfl (by kernel_rfl) (by kernel_rfl) rfl rfl rfl ?_
                      refine xp_skip (i := 11) rfl (by kernel_rfl) (by kernel_rfl) rfl rfl rfl ?_
                      refine xp_skip (i := 12) rfl (by kernel_rfl) (by kernel_rfl) rfl rfl rfl ?_
                      refine xp_skip (i := 13) rfl (by kernel_rfl) (by kernel_rfl) rfl rfl rfl ?_
                      refine xp_skip (i := 14) rfl (by kernel_rfl) (by kernel_rfl) rfl rfl rfl ?_
                      refine xp_pure (i := 15) rfl (by kernel_rfl) (by kernel_rfl) rfl rfl rfl (pv_pick_t (v := .bool _) rfl rfl rfl) ?_
                      refine xp_pure (i := 16) rfl (by kernel_rfl) (by kernel_rfl) rfl rfl rfl (pv_move (v := .bool _) rfl rfl) ?_
                      refine xp_skip (i := 17) rfl (by kernel_rfl) (by kernel_rfl) rfl rfl rfl ?_
                      refine xp_skip (i := 18) rfl (by kernel_rfl) (by kernel_rfl) rfl rfl rfl ?_
                      refine xp_skip (i := 19) rfl (by kernel_rfl) (by kernel_rfl) rfl rfl rfl ?_
                      refine xp_skip (i := 20) rfl (by kernel_rfl) (by kernel_rfl) rfl rfl rfl ?_
                      refine xp_skip (i := 21) rfl (by kernel_rfl) (by kernel_rfl) rfl rfl rfl ?_
                      refine xp_skip (i := 22) rfl (by kernel_rfl) (by kernel_rfl) rfl rfl rfl ?_
                      refine xp_skip (i := 23) rfl (by kernel_rfl) (by kernel_rfl) rfl rfl rfl ?_
                      refine xp_skip (i := 24) rfl (by kernel_rfl) (by kernel_rfl) rfl rfl rfl ?_
                      refine xp_skip (i := 25) rfl (by kernel_rfl) (by kernel_rfl) rfl rfl rfl ?_
                      refine xp_skip (i := 26) rfl (by kernel_rfl) (by kernel_rfl) rfl rfl rfl ?_
                      refine xp_skip (i := 27) rfl (by kernel_rfl) (by kernel_rfl) rfl rfl rfl ?_
                      refine xp_pure (i := 28) rfl (by kernel_rfl) (by kernel_rfl) rfl rfl rfl (pv_pick_t (v := .bool _) rfl rfl rfl) ?_
                      refine xp_done (by kernel_rfl) ?_
                      refine xthen_normal ?_
                      refine xc_cond_t rfl ?_
                      refine xc_seq ?_
                      refine xc_region ?_
                      refine xl_pure rfl rfl rfl (pv_assign (v := .bool _) rfl rfl) ?_
                      refine xl_nil ?_
                      refine xthen_normal ?_
                      refine xc_ret ?_
                      refine xblock_ret ?_
                      refine xthen_ret ?_
                      refine xthen_ret ?_
                      refine xblock_ret ?_
                      refine xthen_ret ?_
                      refine fin_ret (res1 (v := .bool _) rfl rfl) ?_
                      exact ⟨rfl, hX⟩))
          · first
            | (exfalso; omega)
            |  (skip
                refine xl_pure rfl rfl rfl (pv_move (v := .bool _) rfl rfl) ?_
                refine xl_skip rfl rfl rfl ?_
                refine xl_skip rfl rfl rfl ?_
                refine xl_skip rfl rfl rfl ?_
                refine xl_skip rfl rfl rfl ?_
                refine xl_pure rfl rfl rfl (pv_pick_f (v := .bool _) rfl rfl rfl) ?_
                refine xl_pure rfl rfl rfl (pv_assign (v := .bool _) rfl rfl) ?_
                refine xl_nil ?_
                refine xthen_normal ?_
                refine xc_seq ?_
                obtain ⟨bx, ofx, hxe⟩ := hQ4_2.at
                refine xp_start rfl (by repeat (first | with_reducible exact np_fin | with_reducible refine np_then ?_ | with_reducible refine np_block ?_)) (by kernel_rfl) ?_
                refine xp_pure (i := 0) rfl (by kernel_rfl) (by kernel_rfl) rfl rfl rfl (pv_move (v := .bool _) rfl rfl) ?_
                refine xp_pure (i := 1) rfl (by kernel_rfl) (by kernel_rfl) rfl rfl rfl (pv_move (v := .bool _) rfl rfl) ?_
                refine xp_pure (i := 2) rfl (by kernel_rfl) (by kernel_rfl) rfl rfl rfl (pv_neq_b rfl rfl rfl) ?_
                refine xp_pure (i := 3) rfl (by kernel_rfl) (by kernel_rfl) rfl rfl rfl (pv_move (v := .bool _) rfl rfl) ?_
                refine xp_skip (i := 4) rfl (by kernel_rfl) (by kernel_rfl) rfl rfl rfl ?_
                refine xp_skip (i := 5) rfl (by kernel_rfl) (by kernel_rfl) rfl rfl rfl ?_
                refine xp_skip (i := 6) rfl (by kernel_rfl) (by kernel_rfl) rfl rfl rfl ?_
                refine xp_skip (i := 7) rfl (by kernel_rfl) (by kernel_rfl) rfl rfl rfl ?_
                refine xp_skip (i := 8) rfl (by kernel_rfl) (by kernel_rfl) rfl rfl rfl ?_
                refine xp_skip (i := 9) rfl (by kernel_rfl) (by kernel_rfl) rfl rfl rfl ?_
                refine xp_skip (i := 10) rfl (by kernel_rfl) (by kernel_rfl) rfl rfl rfl ?_
                refine xp_skip (i := 11) rfl (by kernel_rfl) (by kernel_rfl) rfl rfl rfl ?_
                refine xp_skip (i := 12) rfl (by kernel_rfl) (by kernel_rfl) rfl rfl rfl ?_
                refine xp_skip (i := 13) rfl (by kernel_rfl) (by kernel_rfl) rfl rfl rfl ?_
                refine xp_skip (i := 14) rfl (by kernel_rfl) (by kernel_rfl) rfl rfl rfl ?_
                refine xp_pure (i := 15) rfl (by kernel_rfl) (by kernel_rfl) rfl rfl rfl (pv_pick_t (v := .bool _) rfl rfl rfl) ?_
                refine xp_pure (i := 16) rfl (by kernel_rfl) (by kernel_rfl) rfl rfl rfl (pv_move (v := .bool _) rfl rfl) ?_
                refine xp_skip (i := 17) rfl (by kernel_rfl) (by kernel_rfl) rfl rfl rfl ?_
                refine xp_skip (i := 18) rfl (by kernel_rfl) (by kernel_rfl) rfl rfl rfl ?_
                refine xp_skip (i := 19) rfl (by kernel_rfl) (by kernel_rfl) rfl rfl rfl ?_
                refine xp_skip (i := 20) rfl (by kernel_rfl) (by kernel_rfl) rfl rfl rfl ?_
                refine xp_skip (i := 21) rfl (by kernel_rfl) (by kernel_rfl) rfl rfl rfl ?_
                refine xp_skip (i := 22) rfl (by kernel_rfl) (by kernel_rfl) rfl rfl rfl ?_
                refine xp_skip (i := 23) rfl (by kernel_rfl) (by kernel_rfl) rfl rfl rfl ?_
                refine xp_skip (i := 24) rfl (by kernel_rfl) (by kernel_rfl) rfl rfl rfl ?_
                refine xp_skip (i := 25) rfl (by kernel_rfl) (by kernel_rfl) rfl rfl rfl ?_
                refine xp_skip (i := 26) rfl (by kernel_rfl) (by kernel_rfl) rfl rfl rfl ?_
                refine xp_skip (i := 27) rfl (by kernel_rfl) (by kernel_rfl) rfl rfl rfl ?_
                refine xp_pure (i := 28) rfl (by kernel_rfl) (by kernel_rfl) rfl rfl rfl (pv_pick_t (v := .bool _) rfl rfl rfl) ?_
                refine xp_done (by kernel_rfl) ?_
                refine xthen_normal ?_
                refine xc_cond_t rfl ?_
                refine xc_seq ?_
                refine xc_region ?_
                refine xl_pure rfl rfl rfl (pv_assign (v := .bool _) rfl rfl) ?_
                refine xl_nil ?_
                refine xthen_normal ?_
                refine xc_ret ?_
                refine xblock_ret ?_
                refine xthen_ret ?_
                refine xthen_ret ?_
                refine xblock_ret ?_
                refine xthen_ret ?_
                refine fin_ret (res1 (v := .bool _) rfl rfl) ?_
                exact ⟨rfl, hX⟩)
        · skip
          refine xl_pure rfl rfl rfl (pv_move (v := .tuple _) rfl rfl) ?_
          refine xl_pure rfl rfl rfl (pv_extract (v := .agg _) rfl rfl rfl) ?_
          refine xl_pure rfl rfl rfl (pv_extract (v := .int _ _) rfl rfl rfl) ?_
          refine xl_pure rfl rfl rfl (pv_extract (v := .bool _) rfl rfl rfl) ?_
          try have hgl := hpw.get (show i.toNat < (playR L).length by omega)
          refine xl_heavy rfl rfl rfl (hv_alloc rfl rfl) ?_
          rintro v10_7 H10_7 ⟨b10_7, rfl, hN10_7⟩
          have gb10_7 := hX.fresh hN10_7
          have nm3_1_10_7 := m3_1.apart hN10_7
          have m3_1 := m3_1.ext hN10_7.ext
          have hR4_2 := hR4_2.ext hN10_7.ext
          have hQ4_2 := hQ4_2.ext hN10_7.ext
          have hX := hX.trans hN10_7.ext
          have m10_7 := hN10_7.blk
          refine xl_store rfl rfl (hv_storeA (vs := [.int _ _, .int _ _, .int _ _, .int _ _]) rfl rfl rfl (m10_7) rfl (by rfl) rfl) ?_
          rintro v10_8 H10_8 ⟨hU10_8, hZ10_8⟩
          have m3_1 := m3_1.off hU10_8.but (by first | exact nm3_1_10_7 | exact ⟨m3_1.ne m10_7 rfl⟩ | exact ⟨m3_1.ne m10_7 (by assumption)⟩ | exact ⟨Ne.symm (m10_7.ne m3_1 (by assumption))⟩)
          have hR4_2 := hR4_2.offT m10_7 hU10_8.but (by first | rfl | assumption)
          have hQ4_2 := hQ4_2.offT m10_7 hU10_8.but (by first | rfl | assumption)
          have hX := hX.upd hU10_8.but gb10_7
          have m10_7 := hU10_8.blk
          refine xl_pure rfl rfl rfl (pv_assign (v := .int _ _) rfl rfl) ?_
          refine xl_pure rfl rfl rfl (pv_assign (v := .bool _) rfl rfl) ?_
          refine xl_nil ?_
          refine xthen_normal ?_
          refine xc_seq ?_
          refine xc_region ?_
          refine xl_pure rfl rfl rfl (pv_move (v := .int _ _) rfl rfl) ?_
          refine xl_dec rfl rfl rfl (pv_geq rfl rfl rfl) (fun h11_1 => ?_) (fun h11_1 => ?_)
          · first
            | (exfalso; omega)
            |  (skip
                refine xl_pure rfl rfl rfl (pv_move (v := .bool _) rfl rfl) ?_
                refine xl_pure rfl rfl rfl (pv_move (v := .int _ _) rfl rfl) ?_
                refine xl_pure rfl rfl rfl (pv_move (v := .slice _ _ _) rfl rfl) ?_
                refine xl_pure rfl rfl rfl (pv_len_l rfl rfl) ?_
                refine xl_dec rfl rfl rfl (pv_lss rfl rfl rfl) (fun h11_6 => ?_) (fun h11_6 => ?_)
                · first
                  | (exfalso; omega)
                  |  (skip
                      refine xl_pure rfl rfl rfl (pv_pick_t (v := .bool _) rfl rfl rfl) ?_
                      refine xl_pure rfl rfl rfl (pv_assign (v := .bool _) rfl rfl) ?_
                      refine xl_nil ?_
                      refine xthen_normal ?_
                      refine xc_seq ?_
                      obtain ⟨bx, ofx, hxe⟩ := hQ4_2.at
                      refine xp_start rfl (by repeat (first | with_reducible exact np_fin | with_reducible refine np_then ?_ | with_reducible refine np_block ?_)) (by kernel_rfl) ?_
                      refine xp_pure (i := 0) rfl (by kernel_rfl) (by kernel_rfl) rfl rfl rfl (pv_move (v := .bool _) rfl rfl) ?_
                      refine xp_pure (i := 1) rfl (by kernel_rfl) (by kernel_rfl) rfl rfl rfl (pv_move (v := .bool _) rfl rfl) ?_
                      refine xp_pure (i := 2) rfl (by kernel_rfl) (by kernel_rfl) rfl rfl rfl (pv_neq_b rfl rfl rfl) ?_
                      refine xp_pure (i := 3) rfl (by kernel_rfl) (by kernel_rfl) rfl rfl rfl (pv_move (v := .bool _) rfl rfl) ?_
                      refine xp_skip (i := 4) rfl (by kernel_rfl) (by kernel_rfl) rfl rfl rfl ?_
                      refine xp_skip (i := 5) rfl (by kernel_rfl) (by kernel_rfl) rfl rfl rfl ?_
                      refine xp_skip (i := 6) rfl (by kernel_rfl) (by kernel_rfl) rfl rfl rfl ?_
                      refine xp_skip (i := 7) rfl (by kernel_rfl) (by kernel_rfl) rfl rfl rfl ?_
                      refine xp_skip (i := 8) rfl (by kernel_rfl) (by kernel_rfl) rfl rfl rfl ?_
                      refine xp_skip (i := 9) rfl (by kernel_rfl) (by kernel_rfl) rfl rfl rfl ?_
                      refine xp_skip (i := 10) rfl (by kernel_rfl) (by kernel_rfl) rfl rfl rfl ?_
                      refine xp_skip (i := 11) rfl (by kernel_rfl) (by kernel_rfl) rfl rfl rfl ?_
                      refine xp_skip (i := 12) rfl (by kernel_rfl) (by kernel_rfl) rfl rfl rfl ?_
                      refine xp_skip (i := 13) rfl (by kernel_rfl) (by kernel_rfl) rfl rfl rfl ?_
                      refine xp_skip (i := 14) rfl (by kernel_rfl) (by kernel_rfl) rfl rfl rfl ?_
                      refine xp_pure (i := 15) rfl (by kernel_rfl) (by kernel_rfl) rfl rfl rfl (pv_pick_t (v := .bool _) rfl rfl rfl) ?_
                      refine xp_pure (i := 16) rfl (by kernel_rfl) (by kernel_rfl) rfl rfl rfl (pv_move (v := .bool _) rfl rfl) ?_
                      refine xp_skip (i := 17) rfl (by kernel_rfl) (by kernel_rfl) rfl rfl rfl ?_
                      refine xp_skip (i := 18) rfl (by kernel_rfl) (by kernel_rfl) rfl rfl rfl ?_
                      refine xp_skip (i := 19) rfl (by kernel_rfl) (by kernel_rfl) rfl rfl rfl ?_
                      refine xp_skip (i := 20) rfl (by kernel_rfl) (by kernel_rfl) rfl rfl rfl ?_
                      refine xp_skip (i := 21) rfl (by kernel_rfl) (by kernel_rfl) rfl rfl rfl ?_
                      refine xp_skip (i := 22) rfl (by kernel_rfl) (by kernel_rfl) rfl rfl rfl ?_
                      refine xp_skip (i := 23) rfl (by kernel_rfl) (by kernel_rfl) rfl rfl rfl ?_
                      refine xp_skip (i := 24) rfl (by kernel_rfl) (by kernel_rfl) rfl rfl rfl ?_
                      refine xp_skip (i := 25) rfl (by kernel_rfl) (by kernel_rfl) rfl rfl rfl ?_
                      refine xp_skip (i := 26) rfl (by kernel_rfl) (by kernel_rfl) rfl rfl rfl ?_
                      refine xp_skip (i := 27) rfl (by kernel_rfl) (by kernel_rfl) rfl rfl rfl ?_
                      refine xp_pure (i := 28) rfl (by kernel_rfl) (by kernel_rfl) rfl rfl rfl (pv_pick_t (v := .bool _) rfl rfl rfl) ?_
                      refine xp_done (by kernel_rfl) ?_
                      refine xthen_normal ?_
                      refine xc_cond_t rfl ?_
                      refine xc_seq ?_
                      refine xc_region ?_
                      refine xl_pure rfl rfl rfl (pv_assign (v := .bool _) rfl rfl) ?_
                      refine xl_nil ?_
                      refine xthen_normal ?_
                      refine xc_ret ?_
                      refine xblock_ret ?_
                      refine xthen_ret ?_
                      refine xthen_ret ?_
                      refine xblock_ret ?_
                      refine xthen_ret ?_
                      refine fin_ret (res1 (v := .bool _) rfl rfl) ?_
                      exact ⟨rfl, hX⟩)
                · first
                  | (exfalso; omega)
                  |  (skip
                      refine xl_pure rfl rfl rfl (pv_pick_t (v := .bool _) rfl rfl rfl) ?_
                      refine xl_pure rfl rfl rfl (pv_assign (v := .bool _) rfl rfl) ?_
                      refine xl_nil ?_
                      refine xthen_normal ?_
                      refine xc_seq ?_
                      obtain ⟨bx, ofx, hxe⟩ := hQ4_2.at
                      refine xp_start rfl (by repeat (first | with_reducible exact np_fin | with_reducible refine np_then ?_ | with_reducible refine np_block ?_)) (by kernel_rfl) ?_
                      refine xp_pure (i := 0) rfl (by kernel_rfl) (by kernel_rfl) rfl rfl rfl (pv_move (v := .bool _) rfl rfl) ?_
                      refine xp_pure (i := 1) rfl (by kernel_rfl) (by kernel_rfl) rfl rfl rfl (pv_move (v := .bool _) rfl rfl) ?_
                      refine xp_pure (i := 2) rfl (by kernel_rfl) (by kernel_rfl) rfl rfl rfl (pv_neq_b rfl rfl rfl) ?_
                      refine xp_pure (i := 3) rfl (by kernel_rfl) (by kernel_rfl) rfl rfl rfl (pv_move (v := .bool _) rfl rfl) ?_
                      refine xp_pure (i := 4) rfl (by kernel_rfl) (by kernel_rfl) rfl rfl rfl (pv_move (v := .bool _) rfl rfl) ?_
                      refine xp_pure (i := 5) rfl (by kernel_rfl) (by kernel_rfl) rfl rfl rfl (pv_move (v := .bool _) rfl rfl) ?_
                      refine xp_skip (i := 6) rfl (by kernel_rfl) (by kernel_rfl) rfl rfl rfl ?_
                      refine xp_skip (i := 7) rfl (by kernel_rfl) (by kernel_rfl) rfl rfl rfl ?_
                      refine xp_skip (i := 8) rfl (by kernel_rfl) (by kernel_rfl) rfl rfl rfl ?_
                      refine xp_skip (i := 9) rfl (by kernel_rfl) (by kernel_rfl) rfl rfl rfl ?_
                      refine xp_skip (i := 10) rfl (by kernel_rfl) (by kernel_rfl) rfl rfl rfl ?_
                      refine xp_skip (i := 11) rfl (by kernel_rfl) (by kernel_rfl) rfl rfl rfl ?_
                      refine xp_skip (i := 12) rfl (by kernel_rfl) (by kernel_rfl) rfl rfl rfl ?_
                      refine xp_skip (i := 13) rfl (by kernel_rfl) (by kernel_rfl) rfl rfl rfl ?_
                      refine xp_pure (i := 14) rfl (by kernel_rfl) (by kernel_rfl) rfl rfl rfl (pv_pick_f (v := .bool _) rfl rfl rfl) ?_
                      refine xp_pure (i := 15) rfl (by kernel_rfl) (by kernel_rfl) rfl rfl rfl (pv_pick_f (v := .bool _) rfl rfl rfl) ?_
                      refine xp_pure (i := 16) rfl (by kernel_rfl) (by kernel_rfl) rfl rfl rfl (pv_move (v := .bool _) rfl rfl) ?_
                      refine xp_pure (i := 17) rfl (by kernel_rfl) (by kernel_rfl) rfl rfl rfl (pv_move (v := .bool _) rfl rfl) ?_
                      refine xp_pure (i := 18) rfl (by kernel_rfl) (by kernel_rfl) rfl rfl rfl (pv_not rfl rfl) ?_
                      refine xp_pure (i := 19) rfl (by kernel_rfl) (by kernel_rfl) rfl rfl rfl (pv_move (v := .bool _) rfl rfl) ?_
                      refine xp_light (i := 20) rfl (by kernel_rfl) (by kernel_rfl) rfl rfl rfl (lv_load (v := .agg _) rfl rfl (ld_ints (r := [0, 0, 0, 0]) m10_7 rfl)) ?_
                      refine xp_pure (i := 21) rfl (by kernel_rfl) (by kernel_rfl) rfl rfl rfl (pv_build_a (cs := [.int _ _, .int _ _, .int _ _, .int _ _]) rfl rfl rfl) ?_
                      refine xp_ndec (i := 22) rfl (by kernel_rfl) (by kernel_rfl) rfl rfl rfl (pv_neq_g [0, 0, 0, 0] [0, 0, 0, 0] rfl rfl rfl rfl rfl) (fun h12_22 => ?_) (fun h12_22 => ?_)
                      · skip
                        refine xp_pure (i := 23) rfl (by kernel_rfl) (by kernel_rfl) rfl rfl rfl (pv_move (v := .bool _) rfl rfl) ?_
                        refine xp_pure (i := 24) rfl (by kernel_rfl) (by kernel_rfl) rfl rfl rfl (pv_move (v := .int _ _) rfl rfl) ?_
                        refine xp_ndec (i := 25) rfl (by kernel_rfl) (by kernel_rfl) rfl rfl rfl (pv_neq rfl rfl rfl) (fun h12_25 => ?_) (fun h12_25 => ?_)
                        · skip
                          refine xp_pure (i := 26) rfl (by kernel_rfl) (by kernel_rfl) rfl rfl rfl (pv_pick_f (v := .bool _) rfl rfl rfl) ?_
                          refine xp_pure (i := 27) rfl (by kernel_rfl) (by kernel_rfl) rfl rfl rfl (pv_pick_t (v := .bool _) rfl rfl rfl) ?_
                          refine xp_pure (i := 28) rfl (by kernel_rfl) (by kernel_rfl) rfl rfl rfl (pv_pick_f (v := .bool _) rfl rfl rfl) ?_
                          refine xp_done (by kernel_rfl) ?_
                          refine xthen_normal ?_
                          refine xc_cond_f rfl ?_
                          refine xc_skip ?_
                          refine xblock_normal ?_
                          refine xthen_normal ?_
                          refine xc_region ?_
                          refine xl_pure rfl rfl rfl (pv_move (v := .int _ _) rfl rfl) ?_
                          refine xl_pure rfl rfl rfl (pv_add rfl rfl rfl (fit_i64 (by omega))) ?_
                          refine xl_pure rfl rfl rfl (pv_assign (v := .int _ _) rfl rfl) ?_
                          refine xl_nil ?_
                          refine xthen_normal ?_
                          exact ⟨i + 1, ⟨rfl, rfl, rfl, trivial⟩, ⟨by (try simp only); omega, by (try simp only); omega, m3_1, hR4_2, hQ4_2, hX⟩, by (try simp only); omega⟩
                        · exact absurd rfl h12_25
                      · exact absurd rfl h12_22))
          · first
            | (exfalso; omega)
            |  (skip
                refine xl_pure rfl rfl rfl (pv_move (v := .bool _) rfl rfl) ?_
                refine xl_skip rfl rfl rfl ?_
                refine xl_skip rfl rfl rfl ?_
                refine xl_skip rfl rfl rfl ?_
                refine xl_skip rfl rfl rfl ?_
                refine xl_pure rfl rfl rfl (pv_pick_f (v := .bool _) rfl rfl rfl) ?_
                refine xl_pure rfl rfl rfl (pv_assign (v := .bool _) rfl rfl) ?_
                refine xl_nil ?_
                refine xthen_normal ?_
                refine xc_seq ?_
                obtain ⟨bx, ofx, hxe⟩ := hQ4_2.at
                refine xp_start rfl (by repeat (first | with_reducible exact np_fin | with_reducible refine np_then ?_ | with_reducible refine np_block ?_)) (by kernel_rfl) ?_
                refine xp_pure (i := 0) rfl (by kernel_rfl) (by kernel_rfl) rfl rfl rfl (pv_move (v := .bool _) rfl rfl) ?_
                refine xp_pure (i := 1) rfl (by kernel_rfl) (by kernel_rfl) rfl rfl rfl (pv_move (v := .bool _) rfl rfl) ?_
                refine xp_pure (i := 2) rfl (by kernel_rfl) (by kernel_rfl) rfl rfl rfl (pv_neq_b rfl rfl rfl) ?_
                refine xp_pure (i := 3) rfl (by kernel_rfl) (by kernel_rfl) rfl rfl rfl (pv_move (v := .bool _) rfl rfl) ?_
                refine xp_pure (i := 4) rfl (by kernel_rfl) (by kernel_rfl) rfl rfl rfl (pv_move (v := .bool _) rfl rfl) ?_
                refine xp_pure (i := 5) rfl (by kernel_rfl) (by kernel_rfl) rfl rfl rfl (pv_move (v := .bool _) rfl rfl) ?_
                refine xp_skip (i := 6) rfl (by kernel_rfl) (by kernel_rfl) rfl rfl rfl ?_
                refine xp_skip (i := 7) rfl (by kernel_rfl) (by kernel_rfl) rfl rfl rfl ?_
                refine xp_skip (i := 8) rfl (by kernel_rfl) (by kernel_rfl) rfl rfl rfl ?_
                refine xp_skip (i := 9) rfl (by kernel_rfl) (by kernel_rfl) rfl rfl rfl ?_
                refine xp_skip (i := 10) rfl (by kernel_rfl) (by kernel_rfl) rfl rfl rfl ?_
                refine xp_skip (i := 11) rfl (by kernel_rfl) (by kernel_rfl) rfl rfl rfl ?_
                refine xp_skip (i := 12) rfl (by kernel_rfl) (by kernel_rfl) rfl rfl rfl ?_
                refine xp_skip (i := 13) rfl (by kernel_rfl) (by kernel_rfl) rfl rfl rfl ?_
                refine xp_pure (i := 14) rfl (by kernel_rfl) (by kernel_rfl) rfl rfl rfl (pv_pick_f (v := .bool _) rfl rfl rfl) ?_
                refine xp_pure (i := 15) rfl (by kernel_rfl) (by kernel_rfl) rfl rfl rfl (pv_pick_f (v := .bool _) rfl rfl rfl) ?_
                refine xp_pure (i := 16) rfl (by kernel_rfl) (by kernel_rfl) rfl rfl rfl (pv_move (v := .bool _) rfl rfl) ?_
                refine xp_pure (i := 17) rfl (by kernel_rfl) (by kernel_rfl) rfl rfl rfl (pv_move (v := .bool _) rfl rfl) ?_
                refine xp_pure (i := 18) rfl (by kernel_rfl) (by kernel_rfl) rfl rfl rfl (pv_not rfl rfl) ?_
                refine xp_pure (i := 19) rfl (by kernel_rfl) (by kernel_rfl) rfl rfl rfl (pv_move (v := .bool _) rfl rfl) ?_
                refine xp_light (i := 20) rfl (by kernel_rfl) (by kernel_rfl) rfl rfl rfl (lv_load (v := .agg _) rfl rfl (ld_ints (r := [0, 0, 0, 0]) m10_7 rfl)) ?_
                refine xp_pure (i := 21) rfl (by kernel_rfl) (by kernel_rfl) rfl rfl rfl (pv_build_a (cs := [.int _ _, .int _ _, .int _ _, .int _ _]) rfl rfl rfl) ?_
                refine xp_ndec (i := 22) rfl (by kernel_rfl) (by kernel_rfl) rfl rfl rfl (pv_neq_g [0, 0, 0, 0] [0, 0, 0, 0] rfl rfl rfl rfl rfl) (fun h12_22 => ?_) (fun h12_22 => ?_)
                · skip
                  refine xp_pure (i := 23) rfl (by kernel_rfl) (by kernel_rfl) rfl rfl rfl (pv_move (v := .bool _) rfl rfl) ?_
                  refine xp_pure (i := 24) rfl (by kernel_rfl) (by kernel_rfl) rfl rfl rfl (pv_move (v := .int _ _) rfl rfl) ?_
                  refine xp_ndec (i := 25) rfl (by kernel_rfl) (by kernel_rfl) rfl rfl rfl (pv_neq rfl rfl rfl) (fun h12_25 => ?_) (fun h12_25 => ?_)
                  · skip
                    refine xp_pure (i := 26) rfl (by kernel_rfl) (by kernel_rfl) rfl rfl rfl (pv_pick_f (v := .bool _) rfl rfl rfl) ?_
                    refine xp_pure (i := 27) rfl (by kernel_rfl) (by kernel_rfl) rfl rfl rfl (pv_pick_t (v := .bool _) rfl rfl rfl) ?_
                    refine xp_pure (i := 28) rfl (by kernel_rfl) (by kernel_rfl) rfl rfl rfl (pv_pick_f (v := .bool _) rfl rfl rfl) ?_
                    refine xp_done (by kernel_rfl) ?_
                    refine xthen_normal ?_
                    refine xc_cond_f rfl ?_
                    refine xc_skip ?_
                    refine xblock_normal ?_
                    refine xthen_normal ?_
                    refine xc_region ?_
                    refine xl_pure rfl rfl rfl (pv_move (v := .int _ _) rfl rfl) ?_
                    refine xl_pure rfl rfl rfl (pv_add rfl rfl rfl (fit_i64 (by omega))) ?_
                    refine xl_pure rfl rfl rfl (pv_assign (v := .int _ _) rfl rfl) ?_
                    refine xl_nil ?_
                    refine xthen_normal ?_
                    exact ⟨i + 1, ⟨rfl, rfl, rfl, trivial⟩, ⟨by (try simp only); omega, by (try simp only); omega, m3_1, hR4_2, hQ4_2, hX⟩, by (try simp only); omega⟩
                  · exact absurd rfl h12_25
                · exact absurd rfl h12_22)
      · skip
        refine xl_nil ?_
        refine xthen_normal ?_
        refine xc_cond_f rfl ?_
        refine xc_exit ?_
        refine xthen_exit ?_
        refine xthen_exit ?_
        refine xblock_same ?_
        refine xthen_normal ?_
        refine xc_seq ?_
        refine xc_region ?_
        refine xl_heavy rfl rfl rfl (hv_call (g := 10) rfl rfl (c10) rfl) ?_
        rintro v14_0 H14_0 ⟨rfl, hE14_0⟩
        have m3_1 := m3_1.ext hE14_0
        have hR4_2 := hR4_2.ext hE14_0
        have hQ4_2 := hQ4_2.ext hE14_0
        have hX := hX.trans hE14_0
        refine xl_pure rfl rfl rfl (pv_assign (v := .bool _) rfl rfl) ?_
        refine xl_nil ?_
        refine xthen_normal ?_
        refine xc_ret ?_
        refine fin_ret (res1 (v := .bool _) rfl rfl) ?_
        exact ⟨rfl, hX⟩
end Go.XG
