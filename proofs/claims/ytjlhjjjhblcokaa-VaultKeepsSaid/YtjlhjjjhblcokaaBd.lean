/-
  Walks of the seat's functions over the logic XG: each function, what it computes. Printed by a program out of wip/walks.py.
-/
import Derived.Test.YtjlhjjjhblcokaaI
import Derived.Test.YtjlhjjjhblcokaaXs
import Derived.Test.YtjlhjjjhblcokaaTo
import Derived.Test.YtjlhjjjhblcokaaTa
import Derived.Test.YtjlhjjjhblcokaaTb
import Derived.Test.YtjlhjjjhblcokaaKb
import Derived.Test.YtjlhjjjhblcokaaBa
import Derived.Test.YtjlhjjjhblcokaaBb
import Derived.Test.YtjlhjjjhblcokaaBc
namespace Go.XG
open Go.Proofs
set_option maxRecDepth 20000
set_option maxHeartbeats 4000000
theorem c12 {O : Outer} {H : Heap} {al : Option Addr} {cl : Nat} {L : List (List Int)} (hL : Rows H al 5 L) (hLl : L.length ≤ 1000) :
    FnC Try.prog 12 #[.slice al L.length cl] O H (fun v H' => ∃ e, LdrB L e ∧ (e = 0 ∧ (∃ b a' c' T', v = .tuple #[.pointer (some ⟨b, 0, none⟩), .int .i64 0] ∧ Fresh H b ∧ Blk H' b (.slice a' ((ldB L L.length)).length c' :: ints (T')) 87 ∧ RowsT H' 138 5 a' (ldB L L.length) ∧ (ldB L L.length).length ≤ c' ∧ (a' = none → c' = 0) ∧ Tots (ldB L L.length) T') ∧ GooL (ldB L L.length) ∨ e ≠ 0 ∧ v = .tuple #[.pointer none, .int .i64 e]) ∧ Ext H H') := by
  refine fn_enter (A := [.slice al L.length cl]) Try.func12 rfl rfl ?_
  have hX := Ext.refl H
  refine xc_seq ?_
  refine xc_region ?_
  refine xl_pure rfl rfl rfl (pv_assign (v := .pointer _) rfl rfl) ?_
  refine xl_pure rfl rfl rfl (pv_assign (v := .int _ _) rfl rfl) ?_
  refine xl_nil ?_
  refine xthen_normal ?_
  refine xc_seq ?_
  refine xc_region ?_
  refine xl_pure rfl rfl rfl (pv_build_s (cs := .slice none 0 0 :: ints (List.replicate 33 0)) rfl rfl (by kernel_rfl)) ?_
  refine xl_heavy rfl rfl rfl (hv_box rfl rfl) ?_
  rintro v1_1 H1_1 ⟨b1_1, rfl, hN1_1⟩
  have gb1_1 := hX.fresh hN1_1
  have hX := hX.trans hN1_1.ext
  have m1_1 := hN1_1.blk
  refine xl_pure rfl rfl rfl (pv_assign (v := .pointer _) rfl rfl) ?_
  refine xl_nil ?_
  refine xthen_normal ?_
  refine xc_seq ?_
  refine xc_region ?_
  refine xl_pure rfl rfl rfl (pv_assign (v := .bool _) rfl rfl) ?_
  refine xl_nil ?_
  refine xthen_normal ?_
  refine xc_seq ?_
  refine xc_seq ?_
  refine xc_region ?_
  refine xl_pure rfl rfl rfl (pv_move (v := .slice _ _ _) rfl rfl) ?_
  refine xl_pure rfl rfl rfl (pv_len_l rfl rfl) ?_
  refine xl_pure rfl rfl rfl (pv_move (v := .int _ _) rfl rfl) ?_
  refine xl_nil ?_
  refine xthen_normal ?_
  refine xc_block ?_
  refine xc_loop (τ := Nat × Option Addr × Nat × List Int × Bool) (fun t => [(4, .pointer (some ⟨b1_1, 0, none⟩)), (5, .bool t.2.2.2.2), (11, .slice al L.length cl), (12, .int .i64 (L.length : Nat)), (13, .int .i64 (t.1 : Nat))]) (fun t H' => (t.1 ≤ L.length) ∧ (TInv L t.1 t.2.2.2.1 t.2.2.2.2) ∧ (Blk H' b1_1 (.slice t.2.1 ((ldB L t.1)).length t.2.2.1 :: ints (t.2.2.2.1)) 87) ∧ (RowsT H' 138 5 t.2.1 (ldB L t.1)) ∧ ((ldB L t.1).length ≤ t.2.2.1) ∧ (t.2.1 = none → t.2.2.1 = 0) ∧ (Ext H H')) (fun t H' => L.length - t.1) (0, none, 0, (List.replicate 33 0), false) ?_ ?_ ?_
  · exact ⟨rfl, rfl, rfl, rfl, rfl, trivial⟩
  · skip
    exact ⟨Nat.zero_le _, tinv_nil, m1_1, RowsT.nil, Nat.le_refl _, fun _ => rfl, hX⟩
  · intro σ
    clear hX m1_1
    rintro ⟨i, a1, c1, T1, ov⟩ Hl4 ⟨hi, hI, m1_1, hR, hc1, hna1, hX⟩
    replace hi : i ≤ L.length := hi
    replace hI : TInv L i T1 ov := hI
    replace m1_1 : Blk Hl4 b1_1 (.slice a1 ((ldB L i)).length c1 :: ints (T1)) 87 := m1_1
    replace hR : RowsT Hl4 138 5 a1 (ldB L i) := hR
    replace hc1 : (ldB L i).length ≤ c1 := hc1
    replace hna1 : a1 = none → c1 = 0 := hna1
    replace hX : Ext H Hl4 := hX
    have hgh := lds_half hL.1 hi hI.ok
    have hyl := hgh.len
    have hTl := hI.len
    obtain ⟨bl, ofl, hLe⟩ := (hL.ext hX).at'
    show XC _ _ _ (upds σ [(4, .pointer (some ⟨b1_1, 0, none⟩)), (5, .bool ov), (11, .slice al L.length cl), (12, .int .i64 (L.length : Nat)), (13, .int .i64 (i : Nat))]) _
    refine xc_seq ?_
    refine xc_region ?_
    refine xl_dec rfl rfl rfl (pv_lss rfl rfl rfl) (fun h4_0 => ?_) (fun h4_0 => ?_)
    · skip
      refine xl_nil ?_
      refine xthen_normal ?_
      refine xc_seq ?_
      refine xc_cond_t rfl ?_
      refine xc_skip ?_
      refine xthen_normal ?_
      refine xc_seq ?_
      refine xc_block ?_
      refine xc_seq ?_
      obtain ⟨r0, r1, r2, r3, r4, er⟩ := five (hL.1.get (show i < L.length by omega))
      refine xc_region ?_
      refine xl_pure rfl rfl rfl (pv_indexAddr_l rfl (sl_eq (hLe (by omega)).1) rfl (by omega)) ?_
      refine xl_light rfl rfl rfl (lv_load (v := .agg _) rfl rfl (by have h := ld_row' (hLe (by omega)).2 hL.1 (i := i) (by omega); rw [er] at h; exact h)) ?_
      refine xl_heavy rfl rfl rfl (hv_alloc rfl rfl) ?_
      rintro v5_2 H5_2 ⟨b5_2, rfl, hN5_2⟩
      have gb5_2 := hX.fresh hN5_2
      have nm1_1_5_2 := m1_1.apart hN5_2
      have m1_1 := m1_1.ext hN5_2.ext
      have hR := hR.ext hN5_2.ext
      have hX := hX.trans hN5_2.ext
      have m5_2 := hN5_2.blk
      refine xl_store rfl rfl (hv_storeA (vs := [.int .i64 r0, .int .i64 r1, .int .i64 r2, .int .i64 r3, .int .i64 r4]) rfl rfl rfl (m5_2) rfl (by rfl) rfl) ?_
      rintro v5_3 H5_3 ⟨hU5_3, hZ5_3⟩
      have m1_1 := m1_1.off hU5_3.but (by first | exact nm1_1_5_2 | exact ⟨m1_1.ne m5_2 rfl⟩ | exact ⟨m1_1.ne m5_2 (by assumption)⟩ | exact ⟨Ne.symm (m5_2.ne m1_1 (by assumption))⟩)
      have hR := hR.offT m5_2 hU5_3.but (by first | rfl | assumption)
      have hX := hX.upd hU5_3.but gb5_2
      have m5_2 := hU5_3.blk
      refine xl_nil ?_
      refine xthen_normal ?_
      refine xc_seq ?_
      refine xc_seq ?_
      refine xc_region ?_
      refine xl_pure rfl rfl rfl (pv_fieldAddr rfl rfl) ?_
      refine xl_light rfl rfl rfl (lv_load (v := .agg _) rfl rfl (by exact ld_part (off := 0) (k := 0) (cs := ints [r0, r1, r2, r3]) m5_2.row rfl rfl rfl)) ?_
      refine xl_heavy rfl rfl rfl (hv_call (g := 44) rfl rfl (c44 r0 r1 r2 r3) rfl) ?_
      rintro v6_2 H6_2 ⟨hv6_2, hE6_2⟩
      have m1_1 := m1_1.ext hE6_2
      have hR := hR.ext hE6_2
      have m5_2 := m5_2.ext hE6_2
      have hX := hX.trans hE6_2
      rcases hv6_2 with ⟨hi6_2, rfl⟩ | ⟨hi6_2, rfl⟩
      · skip
        refine xl_pure rfl rfl rfl (pv_not rfl rfl) ?_
        refine xl_pure rfl rfl rfl (pv_move (v := .bool _) rfl rfl) ?_
        refine xl_pure rfl rfl rfl (pv_fieldAddr rfl rfl) ?_
        refine xl_light rfl rfl rfl (lv_load (v := .int _ _) rfl rfl (ld_blk m5_2 rfl)) ?_
        refine xl_heavy rfl rfl rfl (hv_call (g := 45) rfl rfl (c45 (r4) (1) (1125899906842624)) rfl) ?_
        rintro v6_7 H6_7 ⟨hv6_7, rfl⟩
        rcases hv6_7 with ⟨hi6_7, rfl⟩ | ⟨hi6_7, rfl⟩
        · skip
          refine xl_pure rfl rfl rfl (pv_not rfl rfl) ?_
          refine xl_pure rfl rfl rfl (pv_pick_f (v := .bool _) rfl rfl rfl) ?_
          refine xl_nil ?_
          refine xthen_normal ?_
          refine xc_cond_f rfl ?_
          refine xc_skip ?_
          refine xthen_normal ?_
          refine xc_seq ?_
          refine xc_seq ?_
          refine xp_start rfl (by repeat (first | with_reducible exact np_fin | with_reducible exact np_ret | with_reducible refine np_then ?_ | with_reducible refine np_block ?_)) (by kernel_rfl) ?_
          refine xp_pure (i := 0) rfl (by kernel_rfl) (by kernel_rfl) rfl rfl rfl (pv_move (v := .pointer _) rfl rfl) ?_
          refine xp_pure (i := 1) rfl (by kernel_rfl) (by kernel_rfl) rfl rfl rfl (pv_nilCheck_p rfl rfl) ?_
          refine xp_pure (i := 2) rfl (by kernel_rfl) (by kernel_rfl) rfl rfl rfl (pv_fieldAddr rfl rfl) ?_
          refine xp_pure (i := 3) rfl (by kernel_rfl) (by kernel_rfl) rfl rfl rfl (pv_fieldAddr rfl rfl) ?_
          refine xp_light (i := 4) rfl (by kernel_rfl) (by kernel_rfl) rfl rfl rfl (lv_load (v := .agg _) rfl rfl (by exact ld_part (off := 0) (k := 0) (cs := ints [r0, r1, r2, r3]) m5_2.row rfl rfl rfl)) ?_
          refine xp_pure (i := 6) rfl (by kernel_rfl) (by kernel_rfl) rfl rfl rfl (pv_fieldAddr rfl rfl) ?_
          refine xp_light (i := 7) rfl (by kernel_rfl) (by kernel_rfl) rfl rfl rfl (lv_load (v := .int _ _) rfl rfl (ld_blk m5_2 rfl)) ?_
          refine xp_heavy (i := 5) (by kernel_rfl) ?_
          refine xph_val rfl rfl rfl rfl (hv_call (g := 47) rfl rfl (c47 r0 r1 r2 r3) rfl) (pk (by kernel_rfl) (pd (by kernel_rfl) pn)) ?_
          rintro v8_5 H8_5 ⟨rfl, hE8_5⟩
          have m1_1 := m1_1.ext hE8_5
          have hR := hR.ext hE8_5
          have m5_2 := m5_2.ext hE8_5
          have hX := hX.trans hE8_5
          refine ⟨(okc (lv_load (v := .int _ _) rfl rfl (ld_blk m5_2 rfl)) okn), ?_⟩
          refine xp_heavy (i := 8) (by kernel_rfl) ?_
          refine xph_val rfl rfl rfl rfl (hv_call (g := 46) rfl rfl (c46 m1_1 hR rfl hgh.srt hc1 hna1 (by omega) [r0, r1, r2, r3] rfl r4) rfl) (pd (by kernel_rfl) pn) ?_
          rintro v8_8 H8_8 ⟨a8_8, c8_8, hv8_8, hU8_8, hR8_8, hc8_8, hna8_8⟩
          have hR := hR.offT m1_1 hU8_8.but (by first | rfl | assumption)
          have m5_2 := m5_2.off hU8_8.but (by first | exact nm1_1_5_2.symm | exact ⟨m5_2.ne m1_1 rfl⟩ | exact ⟨m5_2.ne m1_1 (by assumption)⟩ | exact ⟨Ne.symm (m1_1.ne m5_2 (by assumption))⟩)
          have hX := hX.upd hU8_8.but gb1_1
          have m1_1 := hU8_8.blk
          have eP : putR (ldB L i) ([r0, r1, r2, r3] ++ [r4]) = ldB L (i + 1) := by show _ = putR (ldB L i) (gr L i); rw [er]; rfl
          rw [eP] at m1_1 hR8_8 hc8_8
          refine ⟨okn, ?_⟩
          rcases hk8_8 : hasK (ldB L i) [r0, r1, r2, r3] with _ | _
          · skip
            rw [hk8_8] at hv8_8
            obtain rfl : v8_8 = .bool true := hv8_8
            refine xp_pure (i := 9) rfl (by kernel_rfl) (by kernel_rfl) rfl rfl rfl (pv_not rfl rfl) ?_
            refine xp_done (by kernel_rfl) ?_
            refine xthen_normal ?_
            refine xc_cond_f rfl ?_
            refine xc_skip ?_
            refine xthen_normal ?_
            refine xc_seq ?_
            have hok2 : OkB (ldB L i) (gr L i) := ⟨by rw [er]; exact hi6_2, by rw [er]; exact hi6_7.1, by rw [er]; exact hi6_7.2, by rw [er]; exact hk8_8⟩
            have hrb := isB_iff.1 hi6_2
            have hT3 := hI.h r3 hrb.2.2.2.1 hrb.2.2.2.2
            have htt := hgh.tot (t := r3)
            have hyl3 : (ldB L i).length ≤ 1000 := by omega
            have hnx : (1125899906842624 < T1.getD r3.toNat 0 + r4 → TInv L (i + 1) (T1.set r3.toNat 1125899906842624) true) ∧ (¬ 1125899906842624 < T1.getD r3.toNat 0 + r4 → TInv L (i + 1) (T1.set r3.toNat (T1.getD r3.toNat 0 + r4)) ov) := by have h := hI.next hL.1 (by omega) hok2 (n := T1.getD r3.toNat 0 + r4) (by rw [er]; rfl); rw [er] at h; exact h
            refine xp_start rfl (by repeat (first | with_reducible exact np_fin | with_reducible exact np_ret | with_reducible refine np_then ?_ | with_reducible refine np_block ?_)) (by kernel_rfl) ?_
            refine xp_pure (i := 0) rfl (by kernel_rfl) (by kernel_rfl) rfl rfl rfl (pv_move (v := .pointer _) rfl rfl) ?_
            refine xp_pure (i := 1) rfl (by kernel_rfl) (by kernel_rfl) rfl rfl rfl (pv_fieldAddr rfl rfl) ?_
            refine xp_pure (i := 2) rfl (by kernel_rfl) (by kernel_rfl) rfl rfl rfl (pv_fieldAddr rfl rfl) ?_
            refine xp_light (i := 3) rfl (by kernel_rfl) (by kernel_rfl) rfl rfl rfl (lv_load (v := .int _ _) rfl rfl (ld_blk m5_2 rfl)) ?_
            refine xp_pure (i := 4) rfl (by kernel_rfl) (by kernel_rfl) rfl rfl rfl (pv_nilCheck_p rfl rfl) ?_
            refine xp_pure (i := 5) rfl (by kernel_rfl) (by kernel_rfl) rfl rfl rfl (pv_fieldAddr rfl rfl) ?_
            refine xp_pure (i := 6) rfl (by kernel_rfl) (by kernel_rfl) rfl rfl rfl (pv_indexAddr_a rfl rfl rfl (by omega)) ?_
            refine xp_light (i := 7) rfl (by kernel_rfl) (by kernel_rfl) rfl rfl rfl (lv_load (v := .int _ _) rfl rfl (by exact ld_tot m1_1 (by omega))) ?_
            refine xp_pure (i := 8) rfl (by kernel_rfl) (by kernel_rfl) rfl rfl rfl (pv_fieldAddr rfl rfl) ?_
            refine xp_light (i := 9) rfl (by kernel_rfl) (by kernel_rfl) rfl rfl rfl (lv_load (v := .int _ _) rfl rfl (ld_blk m5_2 rfl)) ?_
            refine xp_pure (i := 10) rfl (by kernel_rfl) (by kernel_rfl) rfl rfl rfl (pv_add rfl rfl rfl (fit_i64 (by omega))) ?_
            refine xp_pure (i := 11) rfl (by kernel_rfl) (by kernel_rfl) rfl rfl rfl (pv_assign (v := .int _ _) rfl rfl) ?_
            refine xp_done (by kernel_rfl) ?_
            refine xthen_normal ?_
            refine xc_seq ?_
            refine xc_seq ?_
            refine xc_region ?_
            refine xl_pure rfl rfl rfl (pv_move (v := .int _ _) rfl rfl) ?_
            refine xl_dec rfl rfl rfl (pv_gtr rfl rfl rfl) (fun h11_1 => ?_) (fun h11_1 => ?_)
            · skip
              refine xl_nil ?_
              refine xthen_normal ?_
              refine xc_cond_t rfl ?_
              refine xc_seq ?_
              refine xc_region ?_
              refine xl_pure rfl rfl rfl (pv_assign (v := .bool _) rfl rfl) ?_
              refine xl_nil ?_
              refine xthen_normal ?_
              refine xc_region ?_
              refine xl_pure rfl rfl rfl (pv_assign (v := .int _ _) rfl rfl) ?_
              refine xl_nil ?_
              refine xthen_normal ?_
              refine xp_start rfl (by repeat (first | with_reducible exact np_fin | with_reducible exact np_ret | with_reducible refine np_then ?_ | with_reducible refine np_block ?_)) (by kernel_rfl) ?_
              refine xp_pure (i := 0) rfl (by kernel_rfl) (by kernel_rfl) rfl rfl rfl (pv_move (v := .pointer _) rfl rfl) ?_
              refine xp_pure (i := 1) rfl (by kernel_rfl) (by kernel_rfl) rfl rfl rfl (pv_fieldAddr rfl rfl) ?_
              refine xp_pure (i := 2) rfl (by kernel_rfl) (by kernel_rfl) rfl rfl rfl (pv_fieldAddr rfl rfl) ?_
              refine xp_light (i := 3) rfl (by kernel_rfl) (by kernel_rfl) rfl rfl rfl (lv_load (v := .int _ _) rfl rfl (ld_blk m5_2 rfl)) ?_
              refine xp_pure (i := 4) rfl (by kernel_rfl) (by kernel_rfl) rfl rfl rfl (pv_move (v := .int _ _) rfl rfl) ?_
              refine xp_pure (i := 5) rfl (by kernel_rfl) (by kernel_rfl) rfl rfl rfl (pv_nilCheck_p rfl rfl) ?_
              refine xp_pure (i := 6) rfl (by kernel_rfl) (by kernel_rfl) rfl rfl rfl (pv_fieldAddr rfl rfl) ?_
              refine xp_pure (i := 7) rfl (by kernel_rfl) (by kernel_rfl) rfl rfl rfl (pv_indexAddr_a rfl rfl rfl (by omega)) ?_
              refine xp_heavy (i := 8) (by kernel_rfl) ?_
              refine xph_store rfl rfl rfl (hv_store (vs := [.int .i64 1125899906842624]) rfl rfl rfl (m1_1) rfl (by simp [ints, hI.len]; omega) rfl) (pd (by kernel_rfl) pn) ?_
              rintro v14_8 H14_8 ⟨hU14_8, hZ14_8⟩
              have hR := hR.offT m1_1 hU14_8.but (by first | rfl | assumption)
              have m5_2 := m5_2.off hU14_8.but (by first | exact nm1_1_5_2.symm | exact ⟨m5_2.ne m1_1 rfl⟩ | exact ⟨m5_2.ne m1_1 (by assumption)⟩ | exact ⟨Ne.symm (m1_1.ne m5_2 (by assumption))⟩)
              have hR8_8 := hR8_8.offT m1_1 hU14_8.but (by first | rfl | assumption)
              have hX := hX.upd hU14_8.but gb1_1
              have m1_1 := hU14_8.blk
              rw [Nat.mul_one, set_tot (by rw [hI.len]; omega)] at m1_1
              refine ⟨okn, ?_⟩
              refine xp_done (by kernel_rfl) ?_
              refine xblock_normal ?_
              refine xthen_normal ?_
              refine xc_region ?_
              refine xl_pure rfl rfl rfl (pv_add rfl rfl rfl (fit_i64 (by omega))) ?_
              refine xl_pure rfl rfl rfl (pv_move (v := .int _ _) rfl rfl) ?_
              refine xl_nil ?_
              refine xthen_normal ?_
              first
                | exact ⟨(i + 1, _, _, _, true), ⟨rfl, rfl, rfl, rfl, rfl, trivial⟩, ⟨by (try simp only); omega, hnx.1 (by omega), m1_1, hR8_8, hc8_8, hna8_8, hX⟩, by (try simp only); omega⟩
                | exact ⟨(i + 1, _, _, _, ov), ⟨rfl, rfl, rfl, rfl, rfl, trivial⟩, ⟨by (try simp only); omega, hnx.2 (by omega), m1_1, hR8_8, hc8_8, hna8_8, hX⟩, by (try simp only); omega⟩
            · skip
              refine xl_nil ?_
              refine xthen_normal ?_
              refine xc_cond_f rfl ?_
              refine xc_skip ?_
              refine xthen_normal ?_
              refine xp_start rfl (by repeat (first | with_reducible exact np_fin | with_reducible exact np_ret | with_reducible refine np_then ?_ | with_reducible refine np_block ?_)) (by kernel_rfl) ?_
              refine xp_pure (i := 0) rfl (by kernel_rfl) (by kernel_rfl) rfl rfl rfl (pv_move (v := .pointer _) rfl rfl) ?_
              refine xp_pure (i := 1) rfl (by kernel_rfl) (by kernel_rfl) rfl rfl rfl (pv_fieldAddr rfl rfl) ?_
              refine xp_pure (i := 2) rfl (by kernel_rfl) (by kernel_rfl) rfl rfl rfl (pv_fieldAddr rfl rfl) ?_
              refine xp_light (i := 3) rfl (by kernel_rfl) (by kernel_rfl) rfl rfl rfl (lv_load (v := .int _ _) rfl rfl (ld_blk m5_2 rfl)) ?_
              refine xp_pure (i := 4) rfl (by kernel_rfl) (by kernel_rfl) rfl rfl rfl (pv_move (v := .int _ _) rfl rfl) ?_
              refine xp_pure (i := 5) rfl (by kernel_rfl) (by kernel_rfl) rfl rfl rfl (pv_nilCheck_p rfl rfl) ?_
              refine xp_pure (i := 6) rfl (by kernel_rfl) (by kernel_rfl) rfl rfl rfl (pv_fieldAddr rfl rfl) ?_
              refine xp_pure (i := 7) rfl (by kernel_rfl) (by kernel_rfl) rfl rfl rfl (pv_indexAddr_a rfl rfl rfl (by omega)) ?_
              refine xp_heavy (i := 8) (by kernel_rfl) ?_
              refine xph_store rfl rfl rfl (hv_store (vs := [.int .i64 (T1.getD r3.toNat 0 + r4)]) rfl rfl rfl (m1_1) rfl (by simp [ints, hI.len]; omega) rfl) (pd (by kernel_rfl) pn) ?_
              rintro v14_8 H14_8 ⟨hU14_8, hZ14_8⟩
              have hR := hR.offT m1_1 hU14_8.but (by first | rfl | assumption)
              have m5_2 := m5_2.off hU14_8.but (by first | exact nm1_1_5_2.symm | exact ⟨m5_2.ne m1_1 rfl⟩ | exact ⟨m5_2.ne m1_1 (by assumption)⟩ | exact ⟨Ne.symm (m1_1.ne m5_2 (by assumption))⟩)
              have hR8_8 := hR8_8.offT m1_1 hU14_8.but (by first | rfl | assumption)
              have hX := hX.upd hU14_8.but gb1_1
              have m1_1 := hU14_8.blk
              rw [Nat.mul_one, set_tot (by rw [hI.len]; omega)] at m1_1
              refine ⟨okn, ?_⟩
              refine xp_done (by kernel_rfl) ?_
              refine xblock_normal ?_
              refine xthen_normal ?_
              refine xc_region ?_
              refine xl_pure rfl rfl rfl (pv_add rfl rfl rfl (fit_i64 (by omega))) ?_
              refine xl_pure rfl rfl rfl (pv_move (v := .int _ _) rfl rfl) ?_
              refine xl_nil ?_
              refine xthen_normal ?_
              first
                | exact ⟨(i + 1, _, _, _, true), ⟨rfl, rfl, rfl, rfl, rfl, trivial⟩, ⟨by (try simp only); omega, hnx.1 (by omega), m1_1, hR8_8, hc8_8, hna8_8, hX⟩, by (try simp only); omega⟩
                | exact ⟨(i + 1, _, _, _, ov), ⟨rfl, rfl, rfl, rfl, rfl, trivial⟩, ⟨by (try simp only); omega, hnx.2 (by omega), m1_1, hR8_8, hc8_8, hna8_8, hX⟩, by (try simp only); omega⟩
          · skip
            rw [hk8_8] at hv8_8
            obtain rfl : v8_8 = .bool false := hv8_8
            refine xp_pure (i := 9) rfl (by kernel_rfl) (by kernel_rfl) rfl rfl rfl (pv_not rfl rfl) ?_
            refine xp_done (by kernel_rfl) ?_
            refine xthen_normal ?_
            refine xc_cond_t rfl ?_
            refine xc_seq ?_
            refine xc_region ?_
            refine xl_pure rfl rfl rfl (pv_assign (v := .pointer _) rfl rfl) ?_
            refine xl_pure rfl rfl rfl (pv_assign (v := .int _ _) rfl rfl) ?_
            refine xl_nil ?_
            refine xthen_normal ?_
            refine xc_ret ?_
            refine xthen_ret ?_
            refine xblock_ret ?_
            refine xthen_ret ?_
            refine xthen_ret ?_
            refine xblock_ret ?_
            refine xthen_ret ?_
            refine fin_ret (res2 (v := .pointer _) (x := .int _ _) rfl rfl rfl) ?_
            exact ⟨1, hI.bad (by omega) (fun h => by have h4 := h.new; rw [er] at h4; exact absurd (hk8_8.symm.trans h4) (by decide)), .inr ⟨by decide, rfl⟩, hX⟩
        · skip
          refine xl_pure rfl rfl rfl (pv_not rfl rfl) ?_
          refine xl_pure rfl rfl rfl (pv_pick_f (v := .bool _) rfl rfl rfl) ?_
          refine xl_nil ?_
          refine xthen_normal ?_
          refine xc_cond_t rfl ?_
          refine xc_seq ?_
          refine xc_region ?_
          refine xl_pure rfl rfl rfl (pv_assign (v := .pointer _) rfl rfl) ?_
          refine xl_pure rfl rfl rfl (pv_assign (v := .int _ _) rfl rfl) ?_
          refine xl_nil ?_
          refine xthen_normal ?_
          refine xc_ret ?_
          refine xthen_ret ?_
          refine xblock_ret ?_
          refine xthen_ret ?_
          refine xthen_ret ?_
          refine xblock_ret ?_
          refine xthen_ret ?_
          refine fin_ret (res2 (v := .pointer _) (x := .int _ _) rfl rfl rfl) ?_
          exact ⟨1, hI.bad (by omega) (fun h => by have h1 := h.is; have h2 := h.pos; have h3 := h.le; rw [er] at h1 h2 h3; first | exact hi6_2 h1 | exact hi6_7 ⟨h2, h3⟩), .inr ⟨by decide, rfl⟩, hX⟩
      · skip
        refine xl_pure rfl rfl rfl (pv_not rfl rfl) ?_
        refine xl_pure rfl rfl rfl (pv_move (v := .bool _) rfl rfl) ?_
        refine xl_skip rfl rfl rfl ?_
        refine xl_skip rfl rfl rfl ?_
        refine xl_skip rfl rfl rfl ?_
        refine xl_skip rfl rfl rfl ?_
        refine xl_pure rfl rfl rfl (pv_pick_t (v := .bool _) rfl rfl rfl) ?_
        refine xl_nil ?_
        refine xthen_normal ?_
        refine xc_cond_t rfl ?_
        refine xc_seq ?_
        refine xc_region ?_
        refine xl_pure rfl rfl rfl (pv_assign (v := .pointer _) rfl rfl) ?_
        refine xl_pure rfl rfl rfl (pv_assign (v := .int _ _) rfl rfl) ?_
        refine xl_nil ?_
        refine xthen_normal ?_
        refine xc_ret ?_
        refine xthen_ret ?_
        refine xblock_ret ?_
        refine xthen_ret ?_
        refine xthen_ret ?_
        refine xblock_ret ?_
        refine xthen_ret ?_
        refine fin_ret (res2 (v := .pointer _) (x := .int _ _) rfl rfl rfl) ?_
        exact ⟨1, hI.bad (by omega) (fun h => by have h1 := h.is; have h2 := h.pos; have h3 := h.le; rw [er] at h1 h2 h3; first | exact hi6_2 h1 | exact hi6_7 ⟨h2, h3⟩), .inr ⟨by decide, rfl⟩, hX⟩
    · skip
      refine xl_nil ?_
      refine xthen_normal ?_
      refine xc_seq ?_
      refine xc_cond_f rfl ?_
      refine xc_exit ?_
      refine xthen_exit ?_
      refine xthen_exit ?_
      refine xblock_same ?_
      refine xthen_normal ?_
      refine xc_seq ?_
      refine xc_seq ?_
      refine xc_region ?_
      refine xl_pure rfl rfl rfl (pv_move (v := .bool _) rfl rfl) ?_
      cases ov
      · skip
        refine xl_nil ?_
        refine xthen_normal ?_
        refine xc_cond_f rfl ?_
        refine xc_skip ?_
        refine xthen_normal ?_
        refine xc_seq ?_
        refine xc_region ?_
        refine xl_pure rfl rfl rfl (pv_move (v := .pointer _) rfl rfl) ?_
        refine xl_pure rfl rfl rfl (pv_assign (v := .pointer _) rfl rfl) ?_
        refine xl_pure rfl rfl rfl (pv_assign (v := .int _ _) rfl rfl) ?_
        refine xl_nil ?_
        refine xthen_normal ?_
        refine xc_ret ?_
        refine fin_ret (res2 (v := .pointer _) (x := .int _ _) rfl rfl rfl) ?_
        obtain rfl : i = L.length := by omega
        obtain ⟨g1, g2, g3⟩ := hI.done hL.1
        exact ⟨0, g1, .inl ⟨rfl, ⟨_, _, _, _, rfl, gb1_1, m1_1, hR, hc1, hna1, g3⟩, g2⟩, hX⟩
      · skip
        refine xl_nil ?_
        refine xthen_normal ?_
        refine xc_cond_t rfl ?_
        refine xc_seq ?_
        refine xc_region ?_
        refine xl_pure rfl rfl rfl (pv_assign (v := .pointer _) rfl rfl) ?_
        refine xl_pure rfl rfl rfl (pv_assign (v := .int _ _) rfl rfl) ?_
        refine xl_nil ?_
        refine xthen_normal ?_
        refine xc_ret ?_
        refine xthen_ret ?_
        refine fin_ret (res2 (v := .pointer _) (x := .int _ _) rfl rfl rfl) ?_
        obtain rfl : i = L.length := by omega
        exact ⟨5, hI.over, .inr ⟨by decide, rfl⟩, hX⟩
end Go.XG
