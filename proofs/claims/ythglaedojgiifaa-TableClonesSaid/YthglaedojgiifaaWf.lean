/-
  Walks of the seat's functions over the logic XG: each function, what it computes. Printed by a program out of wip/walks.py.
-/
import Derived.Test.YthglaedojgiifaaI
import Derived.Test.YthglaedojgiifaaTm
import Derived.Test.YthglaedojgiifaaTa
import Derived.Test.YthglaedojgiifaaTb
import Derived.Test.YthglaedojgiifaaTc
import Derived.Test.YthglaedojgiifaaTd
import Derived.Test.YthglaedojgiifaaTe
import Derived.Test.YthglaedojgiifaaP
import Derived.Test.YthglaedojgiifaaWa
import Derived.Test.YthglaedojgiifaaWb
import Derived.Test.YthglaedojgiifaaWc
import Derived.Test.YthglaedojgiifaaWd
import Derived.Test.YthglaedojgiifaaWe
namespace Go.XG
open Go.Proofs
set_option maxRecDepth 4000
set_option maxHeartbeats 4000000
theorem c11 {O : Outer} {H : Heap} {bt : Nat} (mt : Blk H bt [.slice none 0 0] 32) {al : Option Addr} {cl : Nat} {L : List (List Int)} (hL : RowsO H bt al 6 L) (hLl : L.length ≤ 1000) :
    FnC Try.prog 11 #[.pointer (some ⟨bt, 0, none⟩), .slice al L.length cl] O H (fun v H' => ∃ ax cx a c, v = .tuple #[.slice ax (playR L).length cx, .bool true] ∧ RowsT H' 52 5 ax (playR L) ∧ (playR L).length ≤ cx ∧ Blk H' bt [.slice a (playR L).length c] 32 ∧ RowsT H' 69 5 a (playR L) ∧ (playR L).length ≤ c ∧ (a = none → c = 0) ∧ But bt H H') := by
  have hne := (rfl : Nat.beq 32 69 = false)
  refine fn_enter (A := [.pointer (some ⟨bt, 0, none⟩), .slice al L.length cl]) Try.func11 rfl rfl ?_
  have hX := But.refl bt H
  refine xc_seq ?_
  refine xc_region ?_
  refine xl_pure rfl rfl rfl (pv_assign (v := .slice _ _ _) rfl rfl) ?_
  refine xl_pure rfl rfl rfl (pv_assign (v := .bool _) rfl rfl) ?_
  refine xl_nil ?_
  refine xthen_normal ?_
  refine xc_seq ?_
  refine xc_region ?_
  refine xl_pure rfl rfl rfl (pv_assign (v := .slice _ _ _) rfl rfl) ?_
  refine xl_nil ?_
  refine xthen_normal ?_
  refine xc_seq ?_
  refine xc_seq ?_
  refine xc_region ?_
  refine xl_pure rfl rfl rfl (pv_assign (v := .int _ _) rfl rfl) ?_
  refine xl_nil ?_
  refine xthen_normal ?_
  refine xc_block ?_
  refine xc_loop (τ := Nat × Option Addr × Nat × Option Addr × Nat) (fun t => [(0, .pointer (some ⟨bt, 0, none⟩)), (1, .slice al L.length cl), (6, .slice t.2.1 (playR (L.take t.1)).length t.2.2.1), (7, .int .i64 (t.1 : Nat))]) (fun t H' => (t.1 ≤ L.length) ∧ (Blk H' bt [.slice t.2.2.2.1 (playR (L.take t.1)).length t.2.2.2.2] 32) ∧ (RowsT H' 69 5 t.2.2.2.1 (playR (L.take t.1))) ∧ ((playR (L.take t.1)).length ≤ t.2.2.2.2) ∧ (t.2.2.2.1 = none → t.2.2.2.2 = 0) ∧ (RowsT H' 52 5 t.2.1 (playR (L.take t.1))) ∧ ((playR (L.take t.1)).length ≤ t.2.2.1) ∧ (But bt H H')) (fun t H' => L.length - t.1) (0, none, 0, none, 0) ?_ ?_ ?_
  · exact ⟨rfl, rfl, rfl, rfl, trivial⟩
  · skip
    exact ⟨Nat.zero_le _, mt, RowsT.nil, Nat.le_refl _, fun _ => rfl, RowsT.nil, Nat.le_refl _, hX⟩
  · intro σ
    clear hX mt
    rintro ⟨i, ax, cx, a, c⟩ Hl3 ⟨hi, mt, hR, hc, hna, hQ, hcx, hX⟩
    replace hi : i ≤ L.length := hi
    replace mt : Blk Hl3 bt [.slice a (playR (L.take i)).length c] 32 := mt
    replace hR : RowsT Hl3 69 5 a (playR (L.take i)) := hR
    replace hc : (playR (L.take i)).length ≤ c := hc
    replace hna : a = none → c = 0 := hna
    replace hQ : RowsT Hl3 52 5 ax (playR (L.take i)) := hQ
    replace hcx : (playR (L.take i)).length ≤ cx := hcx
    replace hX : But bt H Hl3 := hX
    obtain ⟨hwi, hsi, hpl0⟩ := play_ok hL.rows.1 i hi
    have hpl : (playR (L.take i)).length < 1099511627776 := by omega
    have hLw := hL.rows.1
    obtain ⟨bl, ofl, hLe⟩ := (hL.but hX).at'
    show XC _ _ _ (upds σ [(0, .pointer (some ⟨bt, 0, none⟩)), (1, .slice al L.length cl), (6, .slice ax (playR (L.take i)).length cx), (7, .int .i64 (i : Nat))]) _
    refine xc_seq ?_
    refine xc_seq ?_
    refine xc_region ?_
    refine xl_pure rfl rfl rfl (pv_move (v := .int _ _) rfl rfl) ?_
    refine xl_pure rfl rfl rfl (pv_move (v := .slice _ _ _) rfl rfl) ?_
    refine xl_pure rfl rfl rfl (pv_len_l rfl rfl) ?_
    refine xl_dec rfl rfl rfl (pv_lss rfl rfl rfl) (fun h3_3 => ?_) (fun h3_3 => ?_)
    · skip
      refine xl_nil ?_
      refine xthen_normal ?_
      refine xc_cond_t rfl ?_
      refine xc_skip ?_
      refine xthen_normal ?_
      refine xc_seq ?_
      refine xc_block ?_
      refine xc_seq ?_
      have hr6 := hLw.get (show i < L.length by omega)
      have hkk : (((gr L i).drop 2)).length = 4 := by rw [List.length_drop, hr6]
      refine xc_region ?_
      refine xl_pure rfl rfl rfl (pv_move (v := .slice _ _ _) rfl rfl) ?_
      refine xl_pure rfl rfl rfl (pv_move (v := .int _ _) rfl rfl) ?_
      refine xl_pure rfl rfl rfl (pv_indexAddr_l rfl (sl_eq (hLe (by omega)).1) rfl (by omega)) ?_
      refine xl_pure rfl rfl rfl (pv_fieldAddr rfl rfl) ?_
      refine xl_light rfl rfl rfl (lv_load (v := .agg _) rfl rfl (by exact ld_rdr (hLe (by omega)).2 hLw (by omega) rfl)) ?_
      refine xl_heavy rfl rfl rfl (hv_alloc rfl rfl) ?_
      rintro v5_5 H5_5 ⟨b5_5, rfl, hN5_5⟩
      have gb5_5 := hX.fresh hN5_5
      have nmt_5_5 := mt.apart hN5_5
      have mt := mt.ext hN5_5.ext
      have hR := hR.ext hN5_5.ext
      have hQ := hQ.ext hN5_5.ext
      have hX := hX.transE hN5_5.ext
      have m5_5 := hN5_5.blk
      refine xl_store rfl rfl (hv_storeA (vs := ints ((gr L i).drop 2)) rfl rfl rfl (m5_5) (ints_ten hkk) (by rfl) (ints_one _)) ?_
      rintro v5_6 H5_6 ⟨hU5_6, hZ5_6⟩
      have mt := mt.off hU5_6.but (by first | exact nmt_5_5 | exact ⟨mt.ne m5_5 rfl⟩ | exact ⟨mt.ne m5_5 (by assumption)⟩ | exact ⟨Ne.symm (m5_5.ne mt (by assumption))⟩)
      have hR := hR.offT m5_5 hU5_6.but (by first | rfl | assumption)
      have hQ := hQ.offT m5_5 hU5_6.but (by first | rfl | assumption)
      have hX := hX.upd hU5_6.but gb5_5
      have m5_5 := hU5_6.blk
      refine xl_nil ?_
      refine xthen_normal ?_
      refine xc_seq ?_
      refine xc_seq ?_
      obtain ⟨bl, ofl, hLe⟩ := (hL.but hX).at'
      refine xc_region ?_
      refine xl_pure rfl rfl rfl (pv_move (v := .slice _ _ _) rfl rfl) ?_
      refine xl_pure rfl rfl rfl (pv_move (v := .int _ _) rfl rfl) ?_
      refine xl_pure rfl rfl rfl (pv_indexAddr_l rfl (sl_eq (hLe (by omega)).1) rfl (by omega)) ?_
      refine xl_pure rfl rfl rfl (pv_fieldAddr rfl rfl) ?_
      refine xl_light rfl rfl rfl (lv_load (v := .int _ _) rfl rfl (by exact ld_num (j := 0) (hLe (by omega)).2 hLw (by omega) (by decide))) ?_
      refine xl_nil ?_
      refine xthen_normal ?_
      refine xc_block ?_
      refine xc_seq ?_
      refine xc_region ?_
      refine xl_dec rfl rfl rfl (pv_eql rfl rfl rfl) (fun h12_0 => ?_) (fun h12_0 => ?_)
      · skip
        refine xl_pure rfl rfl rfl (pv_assign (v := .bool _) rfl rfl) ?_
        refine xl_nil ?_
        refine xthen_normal ?_
        refine xc_cond_t rfl ?_
        refine xc_seq ?_
        obtain ⟨bl, ofl, hLe⟩ := (hL.but hX).at'
        refine xp_start rfl (by repeat (first | with_reducible exact np_fin | with_reducible refine np_then ?_ | with_reducible refine np_block ?_)) (by kernel_rfl) ?_
        refine xp_pure (i := 0) rfl (by kernel_rfl) (by kernel_rfl) rfl rfl rfl (pv_move (v := .slice _ _ _) rfl rfl) ?_
        refine xp_light (i := 1) rfl (by kernel_rfl) (by kernel_rfl) rfl rfl rfl (lv_load (v := .agg _) rfl rfl (by exact ld_ints m5_5 hkk)) ?_
        refine xp_pure (i := 2) rfl (by kernel_rfl) (by kernel_rfl) rfl rfl rfl (pv_move (v := .slice _ _ _) rfl rfl) ?_
        refine xp_pure (i := 3) rfl (by kernel_rfl) (by kernel_rfl) rfl rfl rfl (pv_move (v := .int _ _) rfl rfl) ?_
        refine xp_pure (i := 4) rfl (by kernel_rfl) (by kernel_rfl) rfl rfl rfl (pv_indexAddr_l rfl (sl_eq (hLe (by omega)).1) rfl (by omega)) ?_
        refine xp_pure (i := 5) rfl (by kernel_rfl) (by kernel_rfl) rfl rfl rfl (pv_fieldAddr rfl rfl) ?_
        refine xp_light (i := 6) rfl (by kernel_rfl) (by kernel_rfl) rfl rfl rfl (lv_load (v := .int _ _) rfl rfl (by exact ld_num (j := 1) (hLe (by omega)).2 hLw (by omega) (by decide))) ?_
        refine xp_heavy (i := 7) (by kernel_rfl) ?_
        refine xph_val rfl rfl rfl rfl (hv_call (g := 28) rfl rfl (c28 hQ hpl ((gr L i).drop 2) hkk hsi hcx ((gr L i).getD 1 0)) rfl) (pd (by kernel_rfl) (pd (by kernel_rfl) pn)) ?_
        rintro v13_7 H13_7 ⟨ax13_7, cx13_7, rfl, hQ13_7, hcx13_7, hE13_7⟩
        have mt := mt.ext hE13_7
        have hR := hR.ext hE13_7
        have hQ := hQ.ext hE13_7
        have m5_5 := m5_5.ext hE13_7
        have hX := hX.transE hE13_7
        refine ⟨okn, ?_⟩
        refine xp_pure (i := 8) rfl (by kernel_rfl) (by kernel_rfl) rfl rfl rfl (pv_move (v := .tuple _) rfl rfl) ?_
        refine xp_pure (i := 9) rfl (by kernel_rfl) (by kernel_rfl) rfl rfl rfl (pv_extract (v := .slice _ _ _) rfl rfl rfl) ?_
        refine xp_pure (i := 10) rfl (by kernel_rfl) (by kernel_rfl) rfl rfl rfl (pv_extract (v := .bool _) rfl rfl rfl) ?_
        refine xp_pure (i := 11) rfl (by kernel_rfl) (by kernel_rfl) rfl rfl rfl (pv_assign (v := .slice _ _ _) rfl rfl) ?_
        refine xp_pure (i := 12) rfl (by kernel_rfl) (by kernel_rfl) rfl rfl rfl (pv_assign (v := .bool _) rfl rfl) ?_
        refine xp_done (by kernel_rfl) ?_
        refine xthen_normal ?_
        refine xc_seq ?_
        refine xc_region ?_
        refine xl_pure rfl rfl rfl (pv_move (v := .slice _ _ _) rfl rfl) ?_
        refine xl_pure rfl rfl rfl (pv_assign (v := .slice _ _ _) rfl rfl) ?_
        refine xl_nil ?_
        refine xthen_normal ?_
        refine xc_seq ?_
        obtain ⟨bl, ofl, hLe⟩ := (hL.but hX).at'
        refine xp_start rfl (by repeat (first | with_reducible exact np_fin | with_reducible refine np_then ?_ | with_reducible refine np_block ?_)) (by kernel_rfl) ?_
        refine xp_pure (i := 0) rfl (by kernel_rfl) (by kernel_rfl) rfl rfl rfl (pv_move (v := .pointer _) rfl rfl) ?_
        refine xp_light (i := 1) rfl (by kernel_rfl) (by kernel_rfl) rfl rfl rfl (lv_load (v := .agg _) rfl rfl (by exact ld_ints m5_5 hkk)) ?_
        refine xp_pure (i := 2) rfl (by kernel_rfl) (by kernel_rfl) rfl rfl rfl (pv_move (v := .slice _ _ _) rfl rfl) ?_
        refine xp_pure (i := 3) rfl (by kernel_rfl) (by kernel_rfl) rfl rfl rfl (pv_move (v := .int _ _) rfl rfl) ?_
        refine xp_pure (i := 4) rfl (by kernel_rfl) (by kernel_rfl) rfl rfl rfl (pv_indexAddr_l rfl (sl_eq (hLe (by omega)).1) rfl (by omega)) ?_
        refine xp_pure (i := 5) rfl (by kernel_rfl) (by kernel_rfl) rfl rfl rfl (pv_fieldAddr rfl rfl) ?_
        refine xp_light (i := 6) rfl (by kernel_rfl) (by kernel_rfl) rfl rfl rfl (lv_load (v := .int _ _) rfl rfl (by exact ld_num (j := 1) (hLe (by omega)).2 hLw (by omega) (by decide))) ?_
        refine xp_pure (i := 8) rfl (by kernel_rfl) (by kernel_rfl) rfl rfl rfl (pv_move (v := .bool _) rfl rfl) ?_
        refine xp_heavy (i := 7) (by kernel_rfl) ?_
        refine xph_val rfl rfl rfl rfl (hv_call (g := 16) rfl rfl (c16 mt hR hne hsi hc hna hpl ((gr L i).drop 2) hkk ((gr L i).getD 1 0)) rfl) (pd (by kernel_rfl) (pd (by kernel_rfl) pn)) ?_
        rintro v15_7 H15_7 ⟨a15_7, c15_7, rfl, hU15_7, hR15_7, hc15_7, hna15_7⟩
        have hR := hR.offT mt hU15_7.but (by first | rfl | assumption)
        have hQ := hQ.offT mt hU15_7.but (by first | rfl | assumption)
        have m5_5 := m5_5.off hU15_7.but (by first | exact nmt_5_5.symm | exact ⟨m5_5.ne mt rfl⟩ | exact ⟨m5_5.ne mt (by assumption)⟩ | exact ⟨Ne.symm (mt.ne m5_5 (by assumption))⟩)
        have hQ13_7 := hQ13_7.offT mt hU15_7.but (by first | rfl | assumption)
        have hX := hX.trans hU15_7.but
        have mt := hU15_7.blk
        have hp : playR (L.take (i + 1)) = putR (playR (L.take i)) (((gr L i).drop 2) ++ [((gr L i).getD 1 0)]) := (play_take (by omega)).trans (act_put h12_0)
        have hR := hR15_7; have hc := hc15_7; have hna := hna15_7; have hQ := hQ13_7; have hcx := hcx13_7
        refine ⟨okn, ?_⟩
        refine xp_pure (i := 9) rfl (by kernel_rfl) (by kernel_rfl) rfl rfl rfl (pv_neq_same rfl rfl rfl) ?_
        refine xp_done (by kernel_rfl) ?_
        refine xthen_normal ?_
        refine xc_cond_f rfl ?_
        refine xc_skip ?_
        refine xblock_normal ?_
        refine xthen_normal ?_
        refine xc_seq ?_
        refine xc_region ?_
        refine xl_pure rfl rfl rfl (pv_move (v := .pointer _) rfl rfl) ?_
        refine xl_heavy rfl rfl rfl (hv_call (g := 18) rfl rfl (c18 mt) rfl) ?_
        rintro v22_1 H22_1 ⟨rfl, rfl⟩
        refine xl_pure rfl rfl rfl (pv_move (v := .slice _ _ _) rfl rfl) ?_
        refine xl_pure rfl rfl rfl (pv_len_l rfl rfl) ?_
        refine xl_ndec rfl rfl rfl (pv_neq rfl rfl rfl) (fun h22_4 => ?_) (fun h22_4 => ?_)
        · skip
          refine xl_nil ?_
          refine xthen_normal ?_
          refine xc_cond_f rfl ?_
          refine xc_skip ?_
          refine xblock_normal ?_
          refine xthen_normal ?_
          refine xc_region ?_
          refine xl_pure rfl rfl rfl (pv_move (v := .int _ _) rfl rfl) ?_
          refine xl_pure rfl rfl rfl (pv_add rfl rfl rfl (fit_i64 (by omega))) ?_
          refine xl_pure rfl rfl rfl (pv_assign (v := .int _ _) rfl rfl) ?_
          refine xl_nil ?_
          refine xthen_normal ?_
          exact ⟨(i + 1, _, _, _, _), ⟨rfl, rfl, slv (by rw [hp]), rfl, trivial⟩, ⟨by (try simp only); omega, by rw [hp]; exact mt, by rw [hp]; exact hR, by rw [hp]; exact hc, hna, by rw [hp]; exact hQ, by rw [hp]; exact hcx, hX⟩, by (try simp only); omega⟩
        · exact absurd rfl h22_4
      · skip
        refine xl_pure rfl rfl rfl (pv_assign (v := .bool _) rfl rfl) ?_
        refine xl_nil ?_
        refine xthen_normal ?_
        refine xc_cond_f rfl ?_
        refine xc_seq ?_
        refine xc_region ?_
        refine xl_dec rfl rfl rfl (pv_eql rfl rfl rfl) (fun h17_0 => ?_) (fun h17_0 => ?_)
        · skip
          refine xl_pure rfl rfl rfl (pv_assign (v := .bool _) rfl rfl) ?_
          refine xl_nil ?_
          refine xthen_normal ?_
          refine xc_cond_t rfl ?_
          refine xc_seq ?_
          refine xc_region ?_
          refine xl_pure rfl rfl rfl (pv_move (v := .slice _ _ _) rfl rfl) ?_
          refine xl_light rfl rfl rfl (lv_load (v := .agg _) rfl rfl (ld_ints m5_5 hkk)) ?_
          refine xl_heavy rfl rfl rfl (hv_call (g := 29) rfl rfl (c29 hQ hpl ((gr L i).drop 2) hkk hsi hcx) rfl) ?_
          rintro v18_2 H18_2 ⟨ax18_2, cx18_2, rfl, hQ18_2, hcx18_2, hE18_2⟩
          have mt := mt.ext hE18_2
          have hR := hR.ext hE18_2
          have hQ := hQ.ext hE18_2
          have m5_5 := m5_5.ext hE18_2
          have hX := hX.transE hE18_2
          refine xl_pure rfl rfl rfl (pv_move (v := .tuple _) rfl rfl) ?_
          refine xl_pure rfl rfl rfl (pv_extract (v := .slice _ _ _) rfl rfl rfl) ?_
          refine xl_pure rfl rfl rfl (pv_extract (v := .bool _) rfl rfl rfl) ?_
          refine xl_pure rfl rfl rfl (pv_assign (v := .slice _ _ _) rfl rfl) ?_
          refine xl_pure rfl rfl rfl (pv_assign (v := .bool _) rfl rfl) ?_
          refine xl_nil ?_
          refine xthen_normal ?_
          refine xc_seq ?_
          refine xc_region ?_
          refine xl_pure rfl rfl rfl (pv_move (v := .slice _ _ _) rfl rfl) ?_
          refine xl_pure rfl rfl rfl (pv_assign (v := .slice _ _ _) rfl rfl) ?_
          refine xl_nil ?_
          refine xthen_normal ?_
          refine xc_seq ?_
          refine xc_region ?_
          refine xl_pure rfl rfl rfl (pv_move (v := .pointer _) rfl rfl) ?_
          refine xl_light rfl rfl rfl (lv_load (v := .agg _) rfl rfl (ld_ints m5_5 hkk)) ?_
          refine xl_heavy rfl rfl rfl (hv_call (g := 15) rfl rfl (c15 mt hR hne hsi hc hna hpl ((gr L i).drop 2) hkk) rfl) ?_
          rintro v20_2 H20_2 ⟨a20_2, c20_2, rfl, hU20_2, hR20_2, hc20_2, hna20_2⟩
          have hR := hR.offT mt hU20_2.but (by first | rfl | assumption)
          have hQ := hQ.offT mt hU20_2.but (by first | rfl | assumption)
          have m5_5 := m5_5.off hU20_2.but (by first | exact nmt_5_5.symm | exact ⟨m5_5.ne mt rfl⟩ | exact ⟨m5_5.ne mt (by assumption)⟩ | exact ⟨Ne.symm (mt.ne m5_5 (by assumption))⟩)
          have hQ18_2 := hQ18_2.offT mt hU20_2.but (by first | rfl | assumption)
          have hX := hX.trans hU20_2.but
          have mt := hU20_2.blk
          have hp : playR (L.take (i + 1)) = delR (playR (L.take i)) ((gr L i).drop 2) := (play_take (by omega)).trans (act_del h12_0 h17_0)
          have hR := hR20_2; have hc := hc20_2; have hna := hna20_2; have hQ := hQ18_2; have hcx := hcx18_2
          refine xl_pure rfl rfl rfl (pv_move (v := .bool _) rfl rfl) ?_
          refine xl_pure rfl rfl rfl (pv_neq_same rfl rfl rfl) ?_
          refine xl_nil ?_
          refine xthen_normal ?_
          refine xc_cond_f rfl ?_
          refine xc_skip ?_
          refine xblock_normal ?_
          refine xthen_normal ?_
          refine xc_seq ?_
          refine xc_region ?_
          refine xl_pure rfl rfl rfl (pv_move (v := .pointer _) rfl rfl) ?_
          refine xl_heavy rfl rfl rfl (hv_call (g := 18) rfl rfl (c18 mt) rfl) ?_
          rintro v22_1 H22_1 ⟨rfl, rfl⟩
          refine xl_pure rfl rfl rfl (pv_move (v := .slice _ _ _) rfl rfl) ?_
          refine xl_pure rfl rfl rfl (pv_len_l rfl rfl) ?_
          refine xl_ndec rfl rfl rfl (pv_neq rfl rfl rfl) (fun h22_4 => ?_) (fun h22_4 => ?_)
          · skip
            refine xl_nil ?_
            refine xthen_normal ?_
            refine xc_cond_f rfl ?_
            refine xc_skip ?_
            refine xblock_normal ?_
            refine xthen_normal ?_
            refine xc_region ?_
            refine xl_pure rfl rfl rfl (pv_move (v := .int _ _) rfl rfl) ?_
            refine xl_pure rfl rfl rfl (pv_add rfl rfl rfl (fit_i64 (by omega))) ?_
            refine xl_pure rfl rfl rfl (pv_assign (v := .int _ _) rfl rfl) ?_
            refine xl_nil ?_
            refine xthen_normal ?_
            exact ⟨(i + 1, _, _, _, _), ⟨rfl, rfl, slv (by rw [hp]), rfl, trivial⟩, ⟨by (try simp only); omega, by rw [hp]; exact mt, by rw [hp]; exact hR, by rw [hp]; exact hc, hna, by rw [hp]; exact hQ, by rw [hp]; exact hcx, hX⟩, by (try simp only); omega⟩
          · exact absurd rfl h22_4
        · skip
          refine xl_pure rfl rfl rfl (pv_assign (v := .bool _) rfl rfl) ?_
          refine xl_nil ?_
          refine xthen_normal ?_
          refine xc_cond_f rfl ?_
          refine xc_seq ?_
          refine xc_region ?_
          refine xl_pure rfl rfl rfl (pv_move (v := .slice _ _ _) rfl rfl) ?_
          refine xl_light rfl rfl rfl (lv_load (v := .agg _) rfl rfl (ld_ints m5_5 hkk)) ?_
          refine xl_heavy rfl rfl rfl (hv_call (g := 30) rfl rfl (c30 hQ hpl ((gr L i).drop 2) hkk) rfl) ?_
          rintro v7_2 H7_2 ⟨rfl, hE7_2⟩
          have mt := mt.ext hE7_2
          have hR := hR.ext hE7_2
          have hQ := hQ.ext hE7_2
          have m5_5 := m5_5.ext hE7_2
          have hX := hX.transE hE7_2
          refine xl_pure rfl rfl rfl (pv_move (v := .tuple _) rfl rfl) ?_
          refine xl_pure rfl rfl rfl (pv_extract (v := .int _ _) rfl rfl rfl) ?_
          refine xl_pure rfl rfl rfl (pv_extract (v := .bool _) rfl rfl rfl) ?_
          refine xl_pure rfl rfl rfl (pv_assign (v := .int _ _) rfl rfl) ?_
          refine xl_pure rfl rfl rfl (pv_assign (v := .bool _) rfl rfl) ?_
          refine xl_nil ?_
          refine xthen_normal ?_
          refine xc_seq ?_
          refine xc_region ?_
          refine xl_pure rfl rfl rfl (pv_move (v := .pointer _) rfl rfl) ?_
          refine xl_light rfl rfl rfl (lv_load (v := .agg _) rfl rfl (ld_ints m5_5 hkk)) ?_
          refine xl_heavy rfl rfl rfl (hv_call (g := 25) rfl rfl (c25 mt hR hne hsi hc hna hpl ((gr L i).drop 2) hkk) rfl) ?_
          rintro v8_2 H8_2 ⟨rfl, hE8_2⟩
          have mt := mt.ext hE8_2
          have hR := hR.ext hE8_2
          have hQ := hQ.ext hE8_2
          have m5_5 := m5_5.ext hE8_2
          have hX := hX.transE hE8_2
          refine xl_pure rfl rfl rfl (pv_move (v := .tuple _) rfl rfl) ?_
          refine xl_pure rfl rfl rfl (pv_extract (v := .int _ _) rfl rfl rfl) ?_
          refine xl_pure rfl rfl rfl (pv_extract (v := .bool _) rfl rfl rfl) ?_
          refine xl_pure rfl rfl rfl (pv_assign (v := .int _ _) rfl rfl) ?_
          refine xl_pure rfl rfl rfl (pv_assign (v := .bool _) rfl rfl) ?_
          refine xl_nil ?_
          refine xthen_normal ?_
          refine xc_seq ?_
          refine xc_region ?_
          refine xl_pure rfl rfl rfl (pv_move (v := .pointer _) rfl rfl) ?_
          refine xl_light rfl rfl rfl (lv_load (v := .agg _) rfl rfl (ld_ints m5_5 hkk)) ?_
          refine xl_heavy rfl rfl rfl (hv_call (g := 26) rfl rfl (c26 mt hR hne hsi hc hna hpl ((gr L i).drop 2) hkk) rfl) ?_
          rintro v9_2 H9_2 ⟨rfl, hE9_2⟩
          have mt := mt.ext hE9_2
          have hR := hR.ext hE9_2
          have hQ := hQ.ext hE9_2
          have m5_5 := m5_5.ext hE9_2
          have hX := hX.transE hE9_2
          refine xl_pure rfl rfl rfl (pv_move (v := .tuple _) rfl rfl) ?_
          refine xl_pure rfl rfl rfl (pv_extract (v := .int _ _) rfl rfl rfl) ?_
          refine xl_pure rfl rfl rfl (pv_extract (v := .bool _) rfl rfl rfl) ?_
          refine xl_pure rfl rfl rfl (pv_assign (v := .int _ _) rfl rfl) ?_
          refine xl_pure rfl rfl rfl (pv_assign (v := .bool _) rfl rfl) ?_
          refine xl_nil ?_
          refine xthen_normal ?_
          refine xc_seq ?_
          have hp : playR (L.take (i + 1)) = (playR (L.take i)) := (play_take (by omega)).trans (act_get h12_0 h17_0)
          refine xc_region ?_
          refine xl_pure rfl rfl rfl (pv_move (v := .int _ _) rfl rfl) ?_
          refine xl_pure rfl rfl rfl (pv_move (v := .int _ _) rfl rfl) ?_
          refine xl_ndec rfl rfl rfl (pv_neq rfl rfl rfl) (fun h10_2 => ?_) (fun h10_2 => ?_)
          · skip
            refine xl_pure rfl rfl rfl (pv_move (v := .bool _) rfl rfl) ?_
            refine xl_pure rfl rfl rfl (pv_move (v := .bool _) rfl rfl) ?_
            refine xl_pure rfl rfl rfl (pv_move (v := .bool _) rfl rfl) ?_
            refine xl_pure rfl rfl rfl (pv_neq_same rfl rfl rfl) ?_
            refine xl_pure rfl rfl rfl (pv_pick_f (v := .bool _) rfl rfl rfl) ?_
            refine xl_pure rfl rfl rfl (pv_move (v := .bool _) rfl rfl) ?_
            refine xl_pure rfl rfl rfl (pv_move (v := .bool _) rfl rfl) ?_
            refine xl_pure rfl rfl rfl (pv_move (v := .bool _) rfl rfl) ?_
            refine xl_pure rfl rfl rfl (pv_neq_same rfl rfl rfl) ?_
            refine xl_pure rfl rfl rfl (pv_pick_f (v := .bool _) rfl rfl rfl) ?_
            refine xl_pure rfl rfl rfl (pv_move (v := .bool _) rfl rfl) ?_
            refine xl_pure rfl rfl rfl (pv_move (v := .bool _) rfl rfl) ?_
            cases hh : hasK (playR (L.take i)) ((gr L i).drop 2)
            · skip
              refine xl_pure rfl rfl rfl (pv_move (v := .bool _) rfl rfl) ?_
              refine xl_skip rfl rfl rfl ?_
              refine xl_skip rfl rfl rfl ?_
              refine xl_skip rfl rfl rfl ?_
              refine xl_skip rfl rfl rfl ?_
              refine xl_skip rfl rfl rfl ?_
              refine xl_skip rfl rfl rfl ?_
              refine xl_skip rfl rfl rfl ?_
              refine xl_pure rfl rfl rfl (pv_pick_f (v := .bool _) rfl rfl rfl) ?_
              refine xl_pure rfl rfl rfl (pv_pick_f (v := .bool _) rfl rfl rfl) ?_
              refine xl_pure rfl rfl rfl (pv_move (v := .bool _) rfl rfl) ?_
              refine xl_pure rfl rfl rfl (pv_move (v := .bool _) rfl rfl) ?_
              refine xl_pure rfl rfl rfl (pv_not rfl rfl) ?_
              refine xl_pure rfl rfl rfl (pv_move (v := .bool _) rfl rfl) ?_
              refine xl_pure rfl rfl rfl (pv_move (v := .int _ _) rfl rfl) ?_
              refine xl_ndec rfl rfl rfl (pv_neq rfl rfl rfl) (fun h10_30 => ?_) (fun h10_30 => ?_)
              · skip
                refine xl_pure rfl rfl rfl (pv_pick_t (v := .bool _) rfl rfl rfl) ?_
                refine xl_pure rfl rfl rfl (pv_pick_f (v := .bool _) rfl rfl rfl) ?_
                refine xl_nil ?_
                refine xthen_normal ?_
                refine xc_cond_f rfl ?_
                refine xc_skip ?_
                refine xblock_normal ?_
                refine xthen_normal ?_
                refine xc_seq ?_
                refine xc_region ?_
                refine xl_pure rfl rfl rfl (pv_move (v := .pointer _) rfl rfl) ?_
                refine xl_heavy rfl rfl rfl (hv_call (g := 18) rfl rfl (c18 mt) rfl) ?_
                rintro v22_1 H22_1 ⟨rfl, rfl⟩
                refine xl_pure rfl rfl rfl (pv_move (v := .slice _ _ _) rfl rfl) ?_
                refine xl_pure rfl rfl rfl (pv_len_l rfl rfl) ?_
                refine xl_ndec rfl rfl rfl (pv_neq rfl rfl rfl) (fun h22_4 => ?_) (fun h22_4 => ?_)
                · skip
                  refine xl_nil ?_
                  refine xthen_normal ?_
                  refine xc_cond_f rfl ?_
                  refine xc_skip ?_
                  refine xblock_normal ?_
                  refine xthen_normal ?_
                  refine xc_region ?_
                  refine xl_pure rfl rfl rfl (pv_move (v := .int _ _) rfl rfl) ?_
                  refine xl_pure rfl rfl rfl (pv_add rfl rfl rfl (fit_i64 (by omega))) ?_
                  refine xl_pure rfl rfl rfl (pv_assign (v := .int _ _) rfl rfl) ?_
                  refine xl_nil ?_
                  refine xthen_normal ?_
                  exact ⟨(i + 1, _, _, _, _), ⟨rfl, rfl, slv (by rw [hp]), rfl, trivial⟩, ⟨by (try simp only); omega, by rw [hp]; exact mt, by rw [hp]; exact hR, by rw [hp]; exact hc, hna, by rw [hp]; exact hQ, by rw [hp]; exact hcx, hX⟩, by (try simp only); omega⟩
                · exact absurd rfl h22_4
              · exact absurd rfl h10_30
            · skip
              refine xl_pure rfl rfl rfl (pv_move (v := .bool _) rfl rfl) ?_
              refine xl_pure rfl rfl rfl (pv_move (v := .int _ _) rfl rfl) ?_
              refine xl_pure rfl rfl rfl (pv_move (v := .slice _ _ _) rfl rfl) ?_
              refine xl_pure rfl rfl rfl (pv_move (v := .int _ _) rfl rfl) ?_
              obtain ⟨bx, ofx, hxe⟩ := hQ.at
              have hlt := has_lt hsi hwi (by decide) hkk hh
              refine xl_pure rfl rfl rfl (pv_indexAddr_l rfl (sl_eq (hxe (by omega)).1) rfl (by omega)) ?_
              refine xl_pure rfl rfl rfl (pv_fieldAddr rfl rfl) ?_
              refine xl_light rfl rfl rfl (lv_load (v := .int _ _) rfl rfl (by exact ld_num (j := 4) (hxe (by omega)).2 hwi (by omega) (by decide))) ?_
              refine xl_ndec rfl rfl rfl (pv_neq rfl rfl rfl) (fun h10_22 => ?_) (fun h10_22 => ?_)
              · skip
                refine xl_pure rfl rfl rfl (pv_pick_t (v := .bool _) rfl rfl rfl) ?_
                refine xl_pure rfl rfl rfl (pv_pick_f (v := .bool _) rfl rfl rfl) ?_
                refine xl_pure rfl rfl rfl (pv_move (v := .bool _) rfl rfl) ?_
                refine xl_pure rfl rfl rfl (pv_move (v := .bool _) rfl rfl) ?_
                refine xl_pure rfl rfl rfl (pv_not rfl rfl) ?_
                refine xl_pure rfl rfl rfl (pv_move (v := .bool _) rfl rfl) ?_
                refine xl_skip rfl rfl rfl ?_
                refine xl_skip rfl rfl rfl ?_
                refine xl_pure rfl rfl rfl (pv_pick_f (v := .bool _) rfl rfl rfl) ?_
                refine xl_pure rfl rfl rfl (pv_pick_f (v := .bool _) rfl rfl rfl) ?_
                refine xl_nil ?_
                refine xthen_normal ?_
                refine xc_cond_f rfl ?_
                refine xc_skip ?_
                refine xblock_normal ?_
                refine xthen_normal ?_
                refine xc_seq ?_
                refine xc_region ?_
                refine xl_pure rfl rfl rfl (pv_move (v := .pointer _) rfl rfl) ?_
                refine xl_heavy rfl rfl rfl (hv_call (g := 18) rfl rfl (c18 mt) rfl) ?_
                rintro v22_1 H22_1 ⟨rfl, rfl⟩
                refine xl_pure rfl rfl rfl (pv_move (v := .slice _ _ _) rfl rfl) ?_
                refine xl_pure rfl rfl rfl (pv_len_l rfl rfl) ?_
                refine xl_ndec rfl rfl rfl (pv_neq rfl rfl rfl) (fun h22_4 => ?_) (fun h22_4 => ?_)
                · skip
                  refine xl_nil ?_
                  refine xthen_normal ?_
                  refine xc_cond_f rfl ?_
                  refine xc_skip ?_
                  refine xblock_normal ?_
                  refine xthen_normal ?_
                  refine xc_region ?_
                  refine xl_pure rfl rfl rfl (pv_move (v := .int _ _) rfl rfl) ?_
                  refine xl_pure rfl rfl rfl (pv_add rfl rfl rfl (fit_i64 (by omega))) ?_
                  refine xl_pure rfl rfl rfl (pv_assign (v := .int _ _) rfl rfl) ?_
                  refine xl_nil ?_
                  refine xthen_normal ?_
                  exact ⟨(i + 1, _, _, _, _), ⟨rfl, rfl, slv (by rw [hp]), rfl, trivial⟩, ⟨by (try simp only); omega, by rw [hp]; exact mt, by rw [hp]; exact hR, by rw [hp]; exact hc, hna, by rw [hp]; exact hQ, by rw [hp]; exact hcx, hX⟩, by (try simp only); omega⟩
                · exact absurd rfl h22_4
              · exact absurd rfl h10_22
          · exact absurd rfl h10_2
    · skip
      refine xl_nil ?_
      refine xthen_normal ?_
      refine xc_cond_f rfl ?_
      refine xc_exit ?_
      refine xthen_exit ?_
      refine xthen_exit ?_
      refine xblock_same ?_
      refine xthen_normal ?_
      refine xc_seq ?_
      refine xc_region ?_
      refine xl_pure rfl rfl rfl (pv_move (v := .slice _ _ _) rfl rfl) ?_
      refine xl_pure rfl rfl rfl (pv_assign (v := .slice _ _ _) rfl rfl) ?_
      refine xl_pure rfl rfl rfl (pv_assign (v := .bool _) rfl rfl) ?_
      refine xl_nil ?_
      refine xthen_normal ?_
      refine xc_ret ?_
      refine fin_ret (res2 (v := .slice _ _ _) (x := .bool _) rfl rfl rfl) ?_
      have hiL : L.take i = L := List.take_of_length_le (by omega)
      rw [hiL] at mt hR hc hQ hcx
      exact ⟨ax, cx, a, c, by rw [hiL], hQ, hcx, mt, hR, hc, hna, hX⟩
end Go.XG
