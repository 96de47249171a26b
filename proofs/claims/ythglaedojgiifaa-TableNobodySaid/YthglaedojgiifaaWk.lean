/-
  Walks of the seat's functions over the logic XG: each function, what it computes. Printed by a program out of wip/walks.py.
-/
import Derived.Test.YthglaedojgiifaaI
import Derived.Test.YthglaedojgiifaaTm
import Derived.Test.YthglaedojgiifaaTa
import Derived.Test.YthglaedojgiifaaTb
import Derived.Test.YthglaedojgiifaaTc
import Derived.Test.YthglaedojgiifaaTd
import Derived.Test.YthglaedojgiifaaTe
import Derived.Test.YthglaedojgiifaaP
import Derived.Test.YthglaedojgiifaaWa
import Derived.Test.YthglaedojgiifaaWb
import Derived.Test.YthglaedojgiifaaWc
import Derived.Test.YthglaedojgiifaaWd
import Derived.Test.YthglaedojgiifaaWe
import Derived.Test.YthglaedojgiifaaWf
import Derived.Test.YthglaedojgiifaaWg
import Derived.Test.YthglaedojgiifaaWh
import Derived.Test.YthglaedojgiifaaWi
import Derived.Test.YthglaedojgiifaaWj
namespace Go.XG
open Go.Proofs
set_option maxRecDepth 4000
set_option maxHeartbeats 4000000
theorem c4 {O : Outer} {H : Heap} {al : Option Addr} {cl : Nat} {L : List (List Int)} (hL : Rows H al 6 L) {al2 : Option Addr} {cl2 : Nat} {M : List (List Int)} (hM : Rows H al2 6 M) :
    FnC Try.prog 4 #[.slice al L.length cl, .slice al2 M.length cl2] O H (fun v H' => v = .bool true ∧ Ext H H') := by
  refine fn_enter (A := [.slice al L.length cl, .slice al2 M.length cl2]) Try.func4 rfl rfl ?_
  have hX := Ext.refl H
  refine xc_seq ?_
  refine xc_region ?_
  refine xl_pure rfl rfl rfl (pv_assign (v := .bool _) rfl rfl) ?_
  refine xl_nil ?_
  refine xthen_normal ?_
  refine xc_seq ?_
  refine xc_seq ?_
  refine xc_region ?_
  refine xl_pure rfl rfl rfl (pv_move (v := .slice _ _ _) rfl rfl) ?_
  refine xl_pure rfl rfl rfl (pv_len_l rfl rfl) ?_
  refine xl_dec rfl rfl rfl (pv_gtr rfl rfl rfl) (fun h1_2 => ?_) (fun h1_2 => ?_)
  · skip
    refine xl_pure rfl rfl rfl (pv_move (v := .bool _) rfl rfl) ?_
    refine xl_skip rfl rfl rfl ?_
    refine xl_skip rfl rfl rfl ?_
    refine xl_skip rfl rfl rfl ?_
    refine xl_pure rfl rfl rfl (pv_pick_t (v := .bool _) rfl rfl rfl) ?_
    refine xl_nil ?_
    refine xthen_normal ?_
    refine xc_cond_t rfl ?_
    refine xc_seq ?_
    refine xc_region ?_
    refine xl_heavy rfl rfl rfl (hv_call (g := 10) rfl rfl (c10) rfl) ?_
    rintro v2_0 H2_0 ⟨rfl, hE2_0⟩
    have hX := hX.trans hE2_0
    refine xl_pure rfl rfl rfl (pv_assign (v := .bool _) rfl rfl) ?_
    refine xl_nil ?_
    refine xthen_normal ?_
    refine xc_ret ?_
    refine xthen_ret ?_
    refine fin_ret (res1 (v := .bool _) rfl rfl) ?_
    exact ⟨rfl, hX⟩
  · skip
    refine xl_pure rfl rfl rfl (pv_move (v := .bool _) rfl rfl) ?_
    refine xl_pure rfl rfl rfl (pv_move (v := .slice _ _ _) rfl rfl) ?_
    refine xl_pure rfl rfl rfl (pv_len_l rfl rfl) ?_
    refine xl_dec rfl rfl rfl (pv_gtr rfl rfl rfl) (fun h1_6 => ?_) (fun h1_6 => ?_)
    · skip
      refine xl_pure rfl rfl rfl (pv_pick_f (v := .bool _) rfl rfl rfl) ?_
      refine xl_nil ?_
      refine xthen_normal ?_
      refine xc_cond_t rfl ?_
      refine xc_seq ?_
      refine xc_region ?_
      refine xl_heavy rfl rfl rfl (hv_call (g := 10) rfl rfl (c10) rfl) ?_
      rintro v2_0 H2_0 ⟨rfl, hE2_0⟩
      have hX := hX.trans hE2_0
      refine xl_pure rfl rfl rfl (pv_assign (v := .bool _) rfl rfl) ?_
      refine xl_nil ?_
      refine xthen_normal ?_
      refine xc_ret ?_
      refine xthen_ret ?_
      refine fin_ret (res1 (v := .bool _) rfl rfl) ?_
      exact ⟨rfl, hX⟩
    · skip
      refine xl_pure rfl rfl rfl (pv_pick_f (v := .bool _) rfl rfl rfl) ?_
      refine xl_nil ?_
      refine xthen_normal ?_
      refine xc_cond_f rfl ?_
      refine xc_skip ?_
      refine xthen_normal ?_
      refine xc_seq ?_
      refine xc_region ?_
      refine xl_pure rfl rfl rfl (pv_build_s (cs := [.slice _ _ _]) rfl rfl rfl) ?_
      refine xl_heavy rfl rfl rfl (hv_box rfl rfl) ?_
      rintro v3_1 H3_1 ⟨b3_1, rfl, hN3_1⟩
      have gb3_1 := hX.fresh hN3_1
      have hX := hX.trans hN3_1.ext
      have m3_1 := hN3_1.blk
      refine xl_pure rfl rfl rfl (pv_assign (v := .pointer _) rfl rfl) ?_
      refine xl_nil ?_
      refine xthen_normal ?_
      refine xc_seq ?_
      refine xc_region ?_
      refine xl_pure rfl rfl rfl (pv_move (v := .pointer _) rfl rfl) ?_
      refine xl_pure rfl rfl rfl (pv_move (v := .slice _ _ _) rfl rfl) ?_
      refine xl_heavy rfl rfl rfl (hv_call (g := 11) rfl rfl (c11 m3_1 (rowsO_new hL (by decide) hX gb3_1.le) (by omega)) rfl) ?_
      rintro v4_2 H4_2 ⟨ax4_2, cx4_2, a4_2, c4_2, rfl, hQ4_2, hcx4_2, hT4_2, hR4_2, hc4_2, hna4_2, hB4_2⟩
      have hX := hX.upd hB4_2 gb3_1
      have m3_1 := hT4_2
      obtain ⟨hpw, hps, hpl⟩ := play_all hL.1
      have hp2 : (playR L).length < 1099511627776 := by omega
      refine xl_pure rfl rfl rfl (pv_move (v := .tuple _) rfl rfl) ?_
      refine xl_pure rfl rfl rfl (pv_extract (v := .slice _ _ _) rfl rfl rfl) ?_
      refine xl_pure rfl rfl rfl (pv_extract (v := .bool _) rfl rfl rfl) ?_
      refine xl_pure rfl rfl rfl (pv_assign (v := .slice _ _ _) rfl rfl) ?_
      refine xl_pure rfl rfl rfl (pv_assign (v := .bool _) rfl rfl) ?_
      refine xl_nil ?_
      refine xthen_normal ?_
      refine xc_seq ?_
      refine xc_seq ?_
      refine xc_region ?_
      refine xl_pure rfl rfl rfl (pv_move (v := .bool _) rfl rfl) ?_
      refine xl_pure rfl rfl rfl (pv_not rfl rfl) ?_
      refine xl_nil ?_
      refine xthen_normal ?_
      refine xc_cond_f rfl ?_
      refine xc_skip ?_
      refine xthen_normal ?_
      refine xc_seq ?_
      refine xc_region ?_
      refine xl_pure rfl rfl rfl (pv_move (v := .pointer _) rfl rfl) ?_
      refine xl_heavy rfl rfl rfl (hv_call (g := 12) rfl rfl (c12 m3_1) rfl) ?_
      rintro v7_1 H7_1 ⟨b7_1, rfl, hN7_1⟩
      have gb7_1 := hX.fresh hN7_1
      have nm3_1_7_1 := m3_1.apart hN7_1
      have m3_1 := m3_1.ext hN7_1.ext
      have hR4_2 := hR4_2.ext hN7_1.ext
      have hQ4_2 := hQ4_2.ext hN7_1.ext
      have hX := hX.trans hN7_1.ext
      have m7_1 := hN7_1.blk
      refine xl_pure rfl rfl rfl (pv_assign (v := .pointer _) rfl rfl) ?_
      refine xl_nil ?_
      refine xthen_normal ?_
      refine xc_seq ?_
      refine xc_seq ?_
      refine xc_region ?_
      refine xl_pure rfl rfl rfl (pv_move (v := .pointer _) rfl rfl) ?_
      refine xl_pure rfl rfl rfl (pv_eql_pn rfl rfl rfl) ?_
      refine xl_pure rfl rfl rfl (pv_move (v := .bool _) rfl rfl) ?_
      refine xl_pure rfl rfl rfl (pv_move (v := .pointer _) rfl rfl) ?_
      refine xl_heavy rfl rfl rfl (hv_call (g := 14) rfl rfl (c14 m7_1 hR4_2 (rfl : Nat.beq 32 69 = false) hps hc4_2 hna4_2 hp2 rfl rfl) rfl) ?_
      rintro v8_4 H8_4 ⟨a8_4, c8_4, rfl, hA8_4, hE8_4⟩
      have m3_1 := m3_1.ext hE8_4
      have hR4_2 := hR4_2.ext hE8_4
      have hQ4_2 := hQ4_2.ext hE8_4
      have m7_1 := m7_1.ext hE8_4
      have hX := hX.trans hE8_4
      refine xl_pure rfl rfl rfl (pv_move (v := .slice _ _ _) rfl rfl) ?_
      refine xl_heavy rfl rfl rfl (hv_call (g := 13) rfl rfl (c13 (playR L) (playR L) _ _ _ _ hA8_4.rows hQ4_2.rows (by omega)) rfl) ?_
      rintro v8_6 H8_6 ⟨r8_6, rfl, hb8_6, rfl⟩
      obtain rfl : r8_6 = true := hb8_6.2 rfl
      refine xl_pure rfl rfl rfl (pv_not rfl rfl) ?_
      refine xl_pure rfl rfl rfl (pv_pick_f (v := .bool _) rfl rfl rfl) ?_
      refine xl_nil ?_
      refine xthen_normal ?_
      refine xc_cond_f rfl ?_
      refine xc_skip ?_
      refine xthen_normal ?_
      refine xc_seq ?_
      refine xc_seq ?_
      refine xc_region ?_
      refine xl_pure rfl rfl rfl (pv_assign (v := .int _ _) rfl rfl) ?_
      refine xl_nil ?_
      refine xthen_normal ?_
      refine xc_block ?_
      refine xc_loop (τ := Nat × Option Addr × Nat × List (List Int)) (fun t => [(1, .slice al2 M.length cl2), (5, .pointer (some ⟨b3_1, 0, none⟩)), (6, .slice ax4_2 (playR L).length cx4_2), (8, .pointer (some ⟨b7_1, 0, none⟩)), (9, .int .i64 (t.1 : Nat))]) (fun t H' => (t.1 ≤ M.length) ∧ (Blk H' b3_1 [.slice a4_2 (playR L).length c4_2] 32) ∧ (RowsT H' 69 5 a4_2 (playR L)) ∧ (RowsT H' 52 5 ax4_2 (playR L)) ∧ (Blk H' b7_1 [.slice t.2.1 t.2.2.2.length t.2.2.1] 32) ∧ (RowsT H' 69 5 t.2.1 t.2.2.2) ∧ (Srt t.2.2.2) ∧ (t.2.2.2.length ≤ t.2.2.1) ∧ (t.2.1 = none → t.2.2.1 = 0) ∧ (t.2.2.2.length ≤ (playR L).length + t.1) ∧ (Ext H H')) (fun t H' => M.length - t.1) (0, a4_2, c4_2, (playR L)) ?_ ?_ ?_
      · exact ⟨rfl, rfl, rfl, rfl, rfl, trivial⟩
      · skip
        exact ⟨Nat.zero_le _, m3_1, hR4_2, hQ4_2, m7_1, hR4_2, hps, hc4_2, hna4_2, Nat.le_refl _, hX⟩
      · intro σ
        clear hX m3_1 hR4_2 hQ4_2 m7_1 hA8_4
        rintro ⟨i, az, cz, z⟩ Hl11 ⟨hi, m3_1, hR4_2, hQ4_2, m7_1, hz, hsz, hcz, hnz, hlz, hX⟩
        replace hi : i ≤ M.length := hi
        replace m3_1 : Blk Hl11 b3_1 [.slice a4_2 (playR L).length c4_2] 32 := m3_1
        replace hR4_2 : RowsT Hl11 69 5 a4_2 (playR L) := hR4_2
        replace hQ4_2 : RowsT Hl11 52 5 ax4_2 (playR L) := hQ4_2
        replace m7_1 : Blk Hl11 b7_1 [.slice az z.length cz] 32 := m7_1
        replace hz : RowsT Hl11 69 5 az z := hz
        replace hsz : Srt z := hsz
        replace hcz : z.length ≤ cz := hcz
        replace hnz : az = none → cz = 0 := hnz
        replace hlz : z.length ≤ (playR L).length + i := hlz
        replace hX : Ext H Hl11 := hX
        obtain ⟨bl, ofl, hLe⟩ := (hM.ext hX).at'
        show XC _ _ _ (upds σ [(1, .slice al2 M.length cl2), (5, .pointer (some ⟨b3_1, 0, none⟩)), (6, .slice ax4_2 (playR L).length cx4_2), (8, .pointer (some ⟨b7_1, 0, none⟩)), (9, .int .i64 (i : Nat))]) _
        refine xc_seq ?_
        refine xc_seq ?_
        refine xc_region ?_
        refine xl_pure rfl rfl rfl (pv_move (v := .int _ _) rfl rfl) ?_
        refine xl_pure rfl rfl rfl (pv_move (v := .slice _ _ _) rfl rfl) ?_
        refine xl_pure rfl rfl rfl (pv_len_l rfl rfl) ?_
        refine xl_dec rfl rfl rfl (pv_lss rfl rfl rfl) (fun h11_3 => ?_) (fun h11_3 => ?_)
        · skip
          refine xl_nil ?_
          refine xthen_normal ?_
          refine xc_cond_t rfl ?_
          refine xc_skip ?_
          refine xthen_normal ?_
          refine xc_seq ?_
          refine xc_block ?_
          refine xc_seq ?_
          have hr6 := hM.1.get (show i < M.length by omega)
          have hkk : (((gr M i).drop 2)).length = 4 := by rw [List.length_drop, hr6]
          refine xc_region ?_
          refine xl_pure rfl rfl rfl (pv_move (v := .slice _ _ _) rfl rfl) ?_
          refine xl_pure rfl rfl rfl (pv_move (v := .int _ _) rfl rfl) ?_
          refine xl_pure rfl rfl rfl (pv_indexAddr_l rfl (sl_eq (hLe (by omega)).1) rfl (by omega)) ?_
          refine xl_pure rfl rfl rfl (pv_fieldAddr rfl rfl) ?_
          refine xl_light rfl rfl rfl (lv_load (v := .int _ _) rfl rfl (by exact ld_num (j := 0) (hLe (by omega)).2 hM.1 (by omega) (by decide))) ?_
          refine xl_dec rfl rfl rfl (pv_eql rfl rfl rfl) (fun h13_5 => ?_) (fun h13_5 => ?_)
          · skip
            refine xl_nil ?_
            refine xthen_normal ?_
            refine xc_cond_t rfl ?_
            refine xc_region ?_
            refine xl_pure rfl rfl rfl (pv_move (v := .pointer _) rfl rfl) ?_
            refine xl_pure rfl rfl rfl (pv_move (v := .slice _ _ _) rfl rfl) ?_
            refine xl_pure rfl rfl rfl (pv_move (v := .int _ _) rfl rfl) ?_
            refine xl_pure rfl rfl rfl (pv_indexAddr_l rfl (sl_eq (hLe (by omega)).1) rfl (by omega)) ?_
            refine xl_pure rfl rfl rfl (pv_fieldAddr rfl rfl) ?_
            refine xl_light rfl rfl rfl (lv_load (v := .agg _) rfl rfl (by exact ld_rdr (hLe (by omega)).2 hM.1 (by omega) rfl)) ?_
            refine xl_heavy rfl rfl rfl (hv_call (g := 15) rfl rfl (c15 m7_1 hz (rfl : Nat.beq 32 69 = false) hsz hcz hnz (by omega) ((gr M i).drop 2) hkk) rfl) ?_
            rintro v14_6 H14_6 ⟨a14_6, c14_6, hv14_6, hU14_6, hR14_6, hc14_6, hna14_6⟩
            have m3_1 := m3_1.off hU14_6.but (by first | exact nm3_1_7_1 | exact ⟨m3_1.ne m7_1 rfl⟩ | exact ⟨m3_1.ne m7_1 (by assumption)⟩ | exact ⟨Ne.symm (m7_1.ne m3_1 (by assumption))⟩)
            have hR4_2 := hR4_2.offT m7_1 hU14_6.but (by first | rfl | assumption)
            have hQ4_2 := hQ4_2.offT m7_1 hU14_6.but (by first | rfl | assumption)
            have hz := hz.offT m7_1 hU14_6.but (by first | rfl | assumption)
            have hX := hX.upd hU14_6.but gb7_1
            have m7_1 := hU14_6.blk
            refine xl_nil ?_
            refine xblock_normal ?_
            refine xthen_normal ?_
            refine xc_region ?_
            refine xl_pure rfl rfl rfl (pv_move (v := .int _ _) rfl rfl) ?_
            refine xl_pure rfl rfl rfl (pv_add rfl rfl rfl (fit_i64 (by omega))) ?_
            refine xl_pure rfl rfl rfl (pv_assign (v := .int _ _) rfl rfl) ?_
            refine xl_nil ?_
            refine xthen_normal ?_
            first
              | exact ⟨(i + 1, _, _, (delR z ((gr M i).drop 2))), ⟨rfl, rfl, rfl, rfl, rfl, trivial⟩, ⟨by (try simp only); omega, m3_1, hR4_2, hQ4_2, m7_1, hR14_6, srt_del hsz, hc14_6, hna14_6, Nat.le_trans (del_len _ _) (by omega), hX⟩, by (try simp only); omega⟩
              | exact ⟨(i + 1, _, _, (putR z (((gr M i).drop 2) ++ [((gr M i).getD 1 0)]))), ⟨rfl, rfl, rfl, rfl, rfl, trivial⟩, ⟨by (try simp only); omega, m3_1, hR4_2, hQ4_2, m7_1, hR15_11, srt_put hsz hz.wide (by decide) (by rw [List.length_append, hkk]; rfl), hc15_11, hna15_11, Nat.le_trans (put_len _ _) (by omega), hX⟩, by (try simp only); omega⟩
          · skip
            refine xl_nil ?_
            refine xthen_normal ?_
            refine xc_cond_f rfl ?_
            refine xp_start rfl (by repeat (first | with_reducible exact np_fin | with_reducible refine np_then ?_ | with_reducible refine np_block ?_)) (by kernel_rfl) ?_
            refine xp_pure (i := 0) rfl (by kernel_rfl) (by kernel_rfl) rfl rfl rfl (pv_move (v := .pointer _) rfl rfl) ?_
            refine xp_pure (i := 1) rfl (by kernel_rfl) (by kernel_rfl) rfl rfl rfl (pv_move (v := .slice _ _ _) rfl rfl) ?_
            refine xp_pure (i := 2) rfl (by kernel_rfl) (by kernel_rfl) rfl rfl rfl (pv_move (v := .int _ _) rfl rfl) ?_
            refine xp_pure (i := 3) rfl (by kernel_rfl) (by kernel_rfl) rfl rfl rfl (pv_indexAddr_l rfl (sl_eq (hLe (by omega)).1) rfl (by omega)) ?_
            refine xp_pure (i := 4) rfl (by kernel_rfl) (by kernel_rfl) rfl rfl rfl (pv_fieldAddr rfl rfl) ?_
            refine xp_light (i := 5) rfl (by kernel_rfl) (by kernel_rfl) rfl rfl rfl (lv_load (v := .agg _) rfl rfl (by exact ld_rdr (hLe (by omega)).2 hM.1 (by omega) rfl)) ?_
            refine xp_pure (i := 6) rfl (by kernel_rfl) (by kernel_rfl) rfl rfl rfl (pv_move (v := .slice _ _ _) rfl rfl) ?_
            refine xp_pure (i := 7) rfl (by kernel_rfl) (by kernel_rfl) rfl rfl rfl (pv_move (v := .int _ _) rfl rfl) ?_
            refine xp_pure (i := 8) rfl (by kernel_rfl) (by kernel_rfl) rfl rfl rfl (pv_indexAddr_l rfl (sl_eq (hLe (by omega)).1) rfl (by omega)) ?_
            refine xp_pure (i := 9) rfl (by kernel_rfl) (by kernel_rfl) rfl rfl rfl (pv_fieldAddr rfl rfl) ?_
            refine xp_light (i := 10) rfl (by kernel_rfl) (by kernel_rfl) rfl rfl rfl (lv_load (v := .int _ _) rfl rfl (by exact ld_num (j := 1) (hLe (by omega)).2 hM.1 (by omega) (by decide))) ?_
            refine xp_heavy (i := 11) (by kernel_rfl) ?_
            refine xph_val rfl rfl rfl rfl (hv_call (g := 16) rfl rfl (c16 m7_1 hz (rfl : Nat.beq 32 69 = false) hsz hcz hnz (by omega) ((gr M i).drop 2) hkk ((gr M i).getD 1 0)) rfl) (pd (by kernel_rfl) (pd (by kernel_rfl) pn)) ?_
            rintro v15_11 H15_11 ⟨a15_11, c15_11, hv15_11, hU15_11, hR15_11, hc15_11, hna15_11⟩
            have m3_1 := m3_1.off hU15_11.but (by first | exact nm3_1_7_1 | exact ⟨m3_1.ne m7_1 rfl⟩ | exact ⟨m3_1.ne m7_1 (by assumption)⟩ | exact ⟨Ne.symm (m7_1.ne m3_1 (by assumption))⟩)
            have hR4_2 := hR4_2.offT m7_1 hU15_11.but (by first | rfl | assumption)
            have hQ4_2 := hQ4_2.offT m7_1 hU15_11.but (by first | rfl | assumption)
            have hz := hz.offT m7_1 hU15_11.but (by first | rfl | assumption)
            have hX := hX.upd hU15_11.but gb7_1
            have m7_1 := hU15_11.blk
            refine ⟨okn, ?_⟩
            refine xp_done (by kernel_rfl) ?_
            refine xblock_normal ?_
            refine xthen_normal ?_
            refine xc_region ?_
            refine xl_pure rfl rfl rfl (pv_move (v := .int _ _) rfl rfl) ?_
            refine xl_pure rfl rfl rfl (pv_add rfl rfl rfl (fit_i64 (by omega))) ?_
            refine xl_pure rfl rfl rfl (pv_assign (v := .int _ _) rfl rfl) ?_
            refine xl_nil ?_
            refine xthen_normal ?_
            first
              | exact ⟨(i + 1, _, _, (delR z ((gr M i).drop 2))), ⟨rfl, rfl, rfl, rfl, rfl, trivial⟩, ⟨by (try simp only); omega, m3_1, hR4_2, hQ4_2, m7_1, hR14_6, srt_del hsz, hc14_6, hna14_6, Nat.le_trans (del_len _ _) (by omega), hX⟩, by (try simp only); omega⟩
              | exact ⟨(i + 1, _, _, (putR z (((gr M i).drop 2) ++ [((gr M i).getD 1 0)]))), ⟨rfl, rfl, rfl, rfl, rfl, trivial⟩, ⟨by (try simp only); omega, m3_1, hR4_2, hQ4_2, m7_1, hR15_11, srt_put hsz hz.wide (by decide) (by rw [List.length_append, hkk]; rfl), hc15_11, hna15_11, Nat.le_trans (put_len _ _) (by omega), hX⟩, by (try simp only); omega⟩
        · skip
          refine xl_nil ?_
          refine xthen_normal ?_
          refine xc_cond_f rfl ?_
          refine xc_exit ?_
          refine xthen_exit ?_
          refine xthen_exit ?_
          refine xblock_same ?_
          refine xthen_normal ?_
          refine xc_seq ?_
          refine xc_region ?_
          refine xl_pure rfl rfl rfl (pv_move (v := .pointer _) rfl rfl) ?_
          refine xl_heavy rfl rfl rfl (hv_call (g := 14) rfl rfl (c14 m3_1 hR4_2 (rfl : Nat.beq 32 69 = false) hps hc4_2 hna4_2 hp2 rfl rfl) rfl) ?_
          rintro v16_1 H16_1 ⟨a16_1, c16_1, rfl, hA16_1, hE16_1⟩
          have m3_1 := m3_1.ext hE16_1
          have hR4_2 := hR4_2.ext hE16_1
          have hQ4_2 := hQ4_2.ext hE16_1
          have m7_1 := m7_1.ext hE16_1
          have hz := hz.ext hE16_1
          have hX := hX.trans hE16_1
          refine xl_pure rfl rfl rfl (pv_move (v := .slice _ _ _) rfl rfl) ?_
          refine xl_heavy rfl rfl rfl (hv_call (g := 13) rfl rfl (c13 (playR L) (playR L) _ _ _ _ hA16_1.rows hQ4_2.rows (by omega)) rfl) ?_
          rintro v16_3 H16_3 ⟨r16_3, rfl, hb16_3, rfl⟩
          obtain rfl : r16_3 = true := hb16_3.2 rfl
          refine xl_pure rfl rfl rfl (pv_move (v := .bool _) rfl rfl) ?_
          refine xl_pure rfl rfl rfl (pv_move (v := .pointer _) rfl rfl) ?_
          refine xl_heavy rfl rfl rfl (hv_call (g := 17) rfl rfl (c17 m3_1 hR4_2 (rfl : Nat.beq 32 69 = false) hps hc4_2 hna4_2 hp2 rfl rfl) rfl) ?_
          rintro v16_6 H16_6 ⟨a16_6, c16_6, d16_6, e16_6, rfl, hG16_6, hB16_6, hT16_6⟩
          have hR4_2 := hR4_2.offT m3_1 hB16_6 (by first | rfl | assumption)
          have hQ4_2 := hQ4_2.offT m3_1 hB16_6 (by first | rfl | assumption)
          have m7_1 := m7_1.off hB16_6 (by first | exact nm3_1_7_1.symm | exact ⟨m7_1.ne m3_1 rfl⟩ | exact ⟨m7_1.ne m3_1 (by assumption)⟩ | exact ⟨Ne.symm (m3_1.ne m7_1 (by assumption))⟩)
          have hz := hz.offT m3_1 hB16_6 (by first | rfl | assumption)
          have hA16_1 := hA16_1.offT m3_1 hB16_6 (by first | rfl | assumption)
          have hX := hX.upd hB16_6 gb3_1
          have m3_1 := hT16_6
          refine xl_pure rfl rfl rfl (pv_move (v := .slice _ _ _) rfl rfl) ?_
          refine xl_heavy rfl rfl rfl (hv_call (g := 13) rfl rfl (c13 (playR L) (playR L) _ _ _ _ hG16_6.rows hQ4_2.rows (by omega)) rfl) ?_
          rintro v16_8 H16_8 ⟨r16_8, rfl, hb16_8, rfl⟩
          obtain rfl : r16_8 = true := hb16_8.2 rfl
          refine xl_pure rfl rfl rfl (pv_pick_t (v := .bool _) rfl rfl rfl) ?_
          refine xl_pure rfl rfl rfl (pv_move (v := .bool _) rfl rfl) ?_
          refine xl_pure rfl rfl rfl (pv_move (v := .pointer _) rfl rfl) ?_
          refine xl_heavy rfl rfl rfl (hv_call (g := 18) rfl rfl (c18 m3_1) rfl) ?_
          rintro v16_12 H16_12 ⟨rfl, rfl⟩
          refine xl_dec rfl rfl rfl (pv_eql rfl rfl rfl) (fun h16_13 => ?_) (fun h16_13 => ?_)
          · skip
            refine xl_pure rfl rfl rfl (pv_pick_t (v := .bool _) rfl rfl rfl) ?_
            refine xl_pure rfl rfl rfl (pv_move (v := .bool _) rfl rfl) ?_
            refine xl_heavy rfl rfl rfl (hv_call (g := 10) rfl rfl (c10) rfl) ?_
            rintro v16_16 H16_16 ⟨rfl, hE16_16⟩
            have m3_1 := m3_1.ext hE16_16
            have hR4_2 := hR4_2.ext hE16_16
            have hQ4_2 := hQ4_2.ext hE16_16
            have m7_1 := m7_1.ext hE16_16
            have hz := hz.ext hE16_16
            have hA16_1 := hA16_1.ext hE16_16
            have hG16_6 := hG16_6.ext hE16_16
            have hX := hX.trans hE16_16
            refine xl_pure rfl rfl rfl (pv_pick_t (v := .bool _) rfl rfl rfl) ?_
            refine xl_pure rfl rfl rfl (pv_assign (v := .bool _) rfl rfl) ?_
            refine xl_nil ?_
            refine xthen_normal ?_
            refine xc_ret ?_
            refine fin_ret (res1 (v := .bool _) rfl rfl) ?_
            exact ⟨rfl, hX⟩
          · exact absurd rfl h16_13
end Go.XG
