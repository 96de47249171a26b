/-
  Walks of the seat's functions over the logic XG: each function, what it computes. Printed by a program out of wip/walks.py.
-/
import Derived.Test.YtmjnbdbbbgabnaaI
import Derived.Test.YtmjnbdbbbgabnaaTm
import Derived.Test.YtmjnbdbbbgabnaaTa
import Derived.Test.YtmjnbdbbbgabnaaTb
import Derived.Test.YtmjnbdbbbgabnaaTd
import Derived.Test.YtmjnbdbbbgabnaaTc
import Derived.Test.YtmjnbdbbbgabnaaP
import Derived.Test.YtmjnbdbbbgabnaaWa
import Derived.Test.YtmjnbdbbbgabnaaWb
import Derived.Test.YtmjnbdbbbgabnaaWc
import Derived.Test.YtmjnbdbbbgabnaaQ
import Derived.Test.YtmjnbdbbbgabnaaTo
import Derived.Test.YtmjnbdbbbgabnaaWd
import Derived.Test.YtmjnbdbbbgabnaaWe
import Derived.Test.YtmjnbdbbbgabnaaWf
namespace Go.XG
open Go.Proofs
set_option maxRecDepth 4000
set_option maxHeartbeats 4000000
theorem c8 {O : Outer} {H : Heap} {al : Option Addr} {cl : Nat} {L : List (List Int)} (hL : Rows H al 2 L) (hLl : L.length ≤ 1000) :
    FnC Try.prog 8 #[.slice al L.length cl] O H (fun v H' => ∃ e, Ldr L e ∧ (e = 0 ∧ (∃ b a' c', v = .tuple #[.pointer (some ⟨b, 0, none⟩), .int .i64 0] ∧ Fresh H b ∧ Blk H' b [.slice a' (tb (lds L L.length)).length c', .int .i64 (tot (lds L L.length))] 56 ∧ RowsT H' 85 5 a' (tb (lds L L.length)) ∧ (tb (lds L L.length)).length ≤ c' ∧ (a' = none → c' = 0)) ∧ Goo (lds L L.length) ∨ e ≠ 0 ∧ v = .tuple #[.pointer none, .int .i64 e]) ∧ Ext H H') := by
  refine fn_enter (A := [.slice al L.length cl]) Try.func8 rfl rfl ?_
  have hX := Ext.refl H
  refine xc_seq ?_
  refine xc_region ?_
  refine xl_pure rfl rfl rfl (pv_assign (v := .pointer _) rfl rfl) ?_
  refine xl_pure rfl rfl rfl (pv_assign (v := .int _ _) rfl rfl) ?_
  refine xl_nil ?_
  refine xthen_normal ?_
  refine xc_seq ?_
  refine xc_region ?_
  refine xl_pure rfl rfl rfl (pv_build_s (cs := [.slice _ _ _, .int _ _]) rfl rfl rfl) ?_
  refine xl_heavy rfl rfl rfl (hv_box rfl rfl) ?_
  rintro v1_1 H1_1 ⟨b1_1, rfl, hN1_1⟩
  have gb1_1 := hX.fresh hN1_1
  have hX := hX.trans hN1_1.ext
  have m1_1 := hN1_1.blk
  refine xl_pure rfl rfl rfl (pv_assign (v := .pointer _) rfl rfl) ?_
  refine xl_nil ?_
  refine xthen_normal ?_
  refine xc_seq ?_
  refine xc_region ?_
  refine xl_pure rfl rfl rfl (pv_assign (v := .bool _) rfl rfl) ?_
  refine xl_nil ?_
  refine xthen_normal ?_
  refine xc_seq ?_
  refine xc_seq ?_
  refine xc_region ?_
  refine xl_pure rfl rfl rfl (pv_move (v := .slice _ _ _) rfl rfl) ?_
  refine xl_pure rfl rfl rfl (pv_len_l rfl rfl) ?_
  refine xl_pure rfl rfl rfl (pv_move (v := .int _ _) rfl rfl) ?_
  refine xl_nil ?_
  refine xthen_normal ?_
  refine xc_block ?_
  refine xc_loop (τ := Nat × Option Addr × Nat × List (List Int) × Bool) (fun t => [(4, .pointer (some ⟨b1_1, 0, none⟩)), (5, .bool t.2.2.2.2), (10, .slice al L.length cl), (11, .int .i64 (L.length : Nat)), (12, .int .i64 (t.1 : Nat))]) (fun t H' => (t.1 ≤ L.length) ∧ (LInv L t.1 t.2.2.2.1 t.2.2.2.2) ∧ (Blk H' b1_1 [.slice t.2.1 (tb t.2.2.2.1).length t.2.2.1, .int .i64 (tot t.2.2.2.1)] 56) ∧ (RowsT H' 85 5 t.2.1 (tb t.2.2.2.1)) ∧ ((tb t.2.2.2.1).length ≤ t.2.2.1) ∧ (t.2.1 = none → t.2.2.1 = 0) ∧ (Ext H H')) (fun t H' => L.length - t.1) (0, none, 0, [], false) ?_ ?_ ?_
  · exact ⟨rfl, rfl, rfl, rfl, rfl, trivial⟩
  · skip
    exact ⟨Nat.zero_le _, linv_nil, m1_1, RowsT.nil, Nat.le_refl _, fun _ => rfl, hX⟩
  · intro σ
    clear hX m1_1
    rintro ⟨i, a1, c1, px, ov⟩ Hl4 ⟨hi, hI, m1_1, hR, hc1, hna1, hX⟩
    replace hi : i ≤ L.length := hi
    replace hI : LInv L i px ov := hI
    replace m1_1 : Blk Hl4 b1_1 [.slice a1 (tb px).length c1, .int .i64 (tot px)] 56 := m1_1
    replace hR : RowsT Hl4 85 5 a1 (tb px) := hR
    replace hc1 : (tb px).length ≤ c1 := hc1
    replace hna1 : a1 = none → c1 = 0 := hna1
    replace hX : Ext H Hl4 := hX
    have hlp := hI.len
    have hlt : (tb px).length < 1000000 := by rw [tb_len]; omega
    obtain ⟨bl, ofl, hLe⟩ := (hL.ext hX).at'
    show XC _ _ _ (upds σ [(4, .pointer (some ⟨b1_1, 0, none⟩)), (5, .bool ov), (10, .slice al L.length cl), (11, .int .i64 (L.length : Nat)), (12, .int .i64 (i : Nat))]) _
    refine xc_seq ?_
    refine xc_region ?_
    refine xl_dec rfl rfl rfl (pv_lss rfl rfl rfl) (fun h4_0 => ?_) (fun h4_0 => ?_)
    · skip
      refine xl_nil ?_
      refine xthen_normal ?_
      refine xc_seq ?_
      refine xc_cond_t rfl ?_
      refine xc_skip ?_
      refine xthen_normal ?_
      refine xc_seq ?_
      refine xc_block ?_
      refine xc_seq ?_
      have hr2 := hL.1.get (show i < L.length by omega)
      have q1 : (gr L i).getD 1 0 = mo (gr L i) := rfl
      refine xc_region ?_
      refine xl_pure rfl rfl rfl (pv_indexAddr_l rfl (sl_eq (hLe (by omega)).1) rfl (by omega)) ?_
      refine xl_light rfl rfl rfl (lv_load (v := .agg _) rfl rfl (by exact ld_row' (hLe (by omega)).2 hL.1 (by omega))) ?_
      refine xl_heavy rfl rfl rfl (hv_alloc rfl rfl) ?_
      rintro v5_2 H5_2 ⟨b5_2, rfl, hN5_2⟩
      have gb5_2 := hX.fresh hN5_2
      have nm1_1_5_2 := m1_1.apart hN5_2
      have m1_1 := m1_1.ext hN5_2.ext
      have hR := hR.ext hN5_2.ext
      have hX := hX.trans hN5_2.ext
      have m5_2 := hN5_2.blk
      refine xl_store rfl rfl (hv_storeA (vs := ints (gr L i)) rfl rfl rfl (m5_2) (ints_ten hr2) (by rfl) (ints_one _)) ?_
      rintro v5_3 H5_3 ⟨hU5_3, hZ5_3⟩
      have m1_1 := m1_1.off hU5_3.but (by first | exact nm1_1_5_2 | exact ⟨m1_1.ne m5_2 rfl⟩ | exact ⟨m1_1.ne m5_2 (by assumption)⟩ | exact ⟨Ne.symm (m5_2.ne m1_1 (by assumption))⟩)
      have hR := hR.offT m5_2 hU5_3.but (by first | rfl | assumption)
      have hX := hX.upd hU5_3.but gb5_2
      have m5_2 := hU5_3.blk
      refine xl_nil ?_
      refine xthen_normal ?_
      refine xc_seq ?_
      refine xc_seq ?_
      refine xc_region ?_
      refine xl_pure rfl rfl rfl (pv_fieldAddr rfl rfl) ?_
      refine xl_light rfl rfl rfl (lv_load (v := .int _ _) rfl rfl (by exact ld_get (i := 1) m5_2 (by omega))) ?_
      refine xl_dec rfl rfl rfl (pv_lss rfl rfl rfl) (fun h6_2 => ?_) (fun h6_2 => ?_)
      · skip
        refine xl_pure rfl rfl rfl (pv_move (v := .bool _) rfl rfl) ?_
        refine xl_skip rfl rfl rfl ?_
        refine xl_skip rfl rfl rfl ?_
        refine xl_skip rfl rfl rfl ?_
        refine xl_pure rfl rfl rfl (pv_pick_t (v := .bool _) rfl rfl rfl) ?_
        refine xl_pure rfl rfl rfl (pv_move (v := .bool _) rfl rfl) ?_
        refine xl_skip rfl rfl rfl ?_
        refine xl_skip rfl rfl rfl ?_
        refine xl_skip rfl rfl rfl ?_
        refine xl_skip rfl rfl rfl ?_
        refine xl_skip rfl rfl rfl ?_
        refine xl_pure rfl rfl rfl (pv_pick_t (v := .bool _) rfl rfl rfl) ?_
        refine xl_nil ?_
        refine xthen_normal ?_
        refine xc_cond_t rfl ?_
        refine xc_seq ?_
        refine xc_region ?_
        refine xl_pure rfl rfl rfl (pv_assign (v := .pointer _) rfl rfl) ?_
        refine xl_pure rfl rfl rfl (pv_assign (v := .int _ _) rfl rfl) ?_
        refine xl_nil ?_
        refine xthen_normal ?_
        refine xc_ret ?_
        refine xthen_ret ?_
        refine xblock_ret ?_
        refine xthen_ret ?_
        refine xthen_ret ?_
        refine xblock_ret ?_
        refine xthen_ret ?_
        refine fin_ret (res2 (v := .pointer _) (x := .int _ _) rfl rfl rfl) ?_
        exact ⟨1, hI.bad (by omega) (by omega), .inr ⟨by decide, rfl⟩, hX⟩
      · skip
        refine xl_pure rfl rfl rfl (pv_move (v := .bool _) rfl rfl) ?_
        refine xl_pure rfl rfl rfl (pv_fieldAddr rfl rfl) ?_
        refine xl_light rfl rfl rfl (lv_load (v := .int _ _) rfl rfl (by exact ld_get (i := 1) m5_2 (by omega))) ?_
        refine xl_dec rfl rfl rfl (pv_gtr rfl rfl rfl) (fun h6_6 => ?_) (fun h6_6 => ?_)
        · skip
          refine xl_pure rfl rfl rfl (pv_pick_f (v := .bool _) rfl rfl rfl) ?_
          refine xl_pure rfl rfl rfl (pv_move (v := .bool _) rfl rfl) ?_
          refine xl_skip rfl rfl rfl ?_
          refine xl_skip rfl rfl rfl ?_
          refine xl_skip rfl rfl rfl ?_
          refine xl_skip rfl rfl rfl ?_
          refine xl_skip rfl rfl rfl ?_
          refine xl_pure rfl rfl rfl (pv_pick_t (v := .bool _) rfl rfl rfl) ?_
          refine xl_nil ?_
          refine xthen_normal ?_
          refine xc_cond_t rfl ?_
          refine xc_seq ?_
          refine xc_region ?_
          refine xl_pure rfl rfl rfl (pv_assign (v := .pointer _) rfl rfl) ?_
          refine xl_pure rfl rfl rfl (pv_assign (v := .int _ _) rfl rfl) ?_
          refine xl_nil ?_
          refine xthen_normal ?_
          refine xc_ret ?_
          refine xthen_ret ?_
          refine xblock_ret ?_
          refine xthen_ret ?_
          refine xthen_ret ?_
          refine xblock_ret ?_
          refine xthen_ret ?_
          refine fin_ret (res2 (v := .pointer _) (x := .int _ _) rfl rfl rfl) ?_
          exact ⟨1, hI.bad (by omega) (by omega), .inr ⟨by decide, rfl⟩, hX⟩
        · skip
          refine xl_pure rfl rfl rfl (pv_pick_f (v := .bool _) rfl rfl rfl) ?_
          refine xl_pure rfl rfl rfl (pv_move (v := .bool _) rfl rfl) ?_
          refine xl_pure rfl rfl rfl (pv_move (v := .pointer _) rfl rfl) ?_
          refine xl_pure rfl rfl rfl (pv_fieldAddr rfl rfl) ?_
          refine xl_light rfl rfl rfl (lv_load (v := .int _ _) rfl rfl (by exact ld_get (i := 0) m5_2 (by omega))) ?_
          refine xl_heavy rfl rfl rfl (hv_call (g := 19) rfl rfl (c19 m1_1 hR hc1 hna1 hlt hI.goo (ow (gr L i))) rfl) ?_
          rintro v6_12 H6_12 ⟨a6_12, c6_12, rfl, hB6_12, hT6_12, hR6_12, hc6_12, hna6_12⟩
          have hR := hR.offT m1_1 hB6_12 (by first | rfl | assumption)
          have m5_2 := m5_2.off hB6_12 (by first | exact nm1_1_5_2.symm | exact ⟨m5_2.ne m1_1 rfl⟩ | exact ⟨m5_2.ne m1_1 (by assumption)⟩ | exact ⟨Ne.symm (m1_1.ne m5_2 (by assumption))⟩)
          have hX := hX.upd hB6_12 gb1_1
          have m1_1 := hT6_12
          refine xl_ndec rfl rfl rfl (pv_neq rfl rfl rfl) (fun h6_13 => ?_) (fun h6_13 => ?_)
          · skip
            refine xl_pure rfl rfl rfl (pv_pick_f (v := .bool _) rfl rfl rfl) ?_
            refine xl_nil ?_
            refine xthen_normal ?_
            refine xc_cond_f rfl ?_
            refine xc_skip ?_
            refine xthen_normal ?_
            refine xc_seq ?_
            obtain ⟨hg2, hl2, ht2⟩ := goo_open (o := ow (gr L i)) hI.goo
            have hlt2 : (tb (openX px (ow (gr L i)))).length < 1000000 := by rw [tb_len]; omega
            refine xc_region ?_
            refine xl_pure rfl rfl rfl (pv_move (v := .pointer _) rfl rfl) ?_
            refine xl_pure rfl rfl rfl (pv_fieldAddr rfl rfl) ?_
            refine xl_light rfl rfl rfl (lv_load (v := .int _ _) rfl rfl (by exact ld_get (i := 0) m5_2 (by omega))) ?_
            refine xl_pure rfl rfl rfl (pv_fieldAddr rfl rfl) ?_
            refine xl_light rfl rfl rfl (lv_load (v := .int _ _) rfl rfl (by exact ld_get (i := 1) m5_2 (by omega))) ?_
            refine xl_heavy rfl rfl rfl (hv_call (g := 21) rfl rfl (c21 m1_1 hR6_12 hc6_12 hna6_12 hlt2 hg2 (ow (gr L i)) (mo (gr L i)) (by omega)) rfl) ?_
            rintro v8_5 H8_5 ⟨a8_5, c8_5, rfl, hB8_5, hT8_5, hR8_5, hc8_5, hna8_5⟩
            have hR := hR.offT m1_1 hB8_5 (by first | rfl | assumption)
            have m5_2 := m5_2.off hB8_5 (by first | exact nm1_1_5_2.symm | exact ⟨m5_2.ne m1_1 rfl⟩ | exact ⟨m5_2.ne m1_1 (by assumption)⟩ | exact ⟨Ne.symm (m1_1.ne m5_2 (by assumption))⟩)
            have hR6_12 := hR6_12.offT m1_1 hB8_5 (by first | rfl | assumption)
            have hX := hX.upd hB8_5 gb1_1
            have m1_1 := hT8_5
            refine xl_ndec rfl rfl rfl (pv_neq rfl rfl rfl) (fun h8_6 => ?_) (fun h8_6 => ?_)
            · skip
              refine xl_nil ?_
              refine xthen_normal ?_
              refine xc_cond_f rfl ?_
              refine xc_skip ?_
              refine xblock_normal ?_
              refine xthen_normal ?_
              refine xc_region ?_
              refine xl_pure rfl rfl rfl (pv_add rfl rfl rfl (fit_i64 (by omega))) ?_
              refine xl_pure rfl rfl rfl (pv_move (v := .int _ _) rfl rfl) ?_
              refine xl_nil ?_
              refine xthen_normal ?_
              first
                | exact ⟨(i + 1, _, _, (giveX (openX px (ow (gr L i))) (ow (gr L i)) (mo (gr L i))), true), ⟨rfl, rfl, rfl, rfl, rfl, trivial⟩, ⟨by (try simp only); omega, hI.next_over (by omega) (by omega) (by omega) h6_13 h8_6, m1_1, hR8_5, hc8_5, hna8_5, hX⟩, by (try simp only); omega⟩
                | exact ⟨(i + 1, _, _, (giveX (openX px (ow (gr L i))) (ow (gr L i)) (mo (gr L i))), ov), ⟨rfl, rfl, rfl, rfl, rfl, trivial⟩, ⟨by (try simp only); omega, hI.next_ok (by omega) (by omega) (by omega) h6_13 h8_6, m1_1, hR8_5, hc8_5, hna8_5, hX⟩, by (try simp only); omega⟩
            · skip
              refine xl_nil ?_
              refine xthen_normal ?_
              refine xc_cond_t rfl ?_
              refine xc_region ?_
              refine xl_pure rfl rfl rfl (pv_assign (v := .bool _) rfl rfl) ?_
              refine xl_nil ?_
              refine xblock_normal ?_
              refine xthen_normal ?_
              refine xc_region ?_
              refine xl_pure rfl rfl rfl (pv_add rfl rfl rfl (fit_i64 (by omega))) ?_
              refine xl_pure rfl rfl rfl (pv_move (v := .int _ _) rfl rfl) ?_
              refine xl_nil ?_
              refine xthen_normal ?_
              first
                | exact ⟨(i + 1, _, _, (giveX (openX px (ow (gr L i))) (ow (gr L i)) (mo (gr L i))), true), ⟨rfl, rfl, rfl, rfl, rfl, trivial⟩, ⟨by (try simp only); omega, hI.next_over (by omega) (by omega) (by omega) h6_13 h8_6, m1_1, hR8_5, hc8_5, hna8_5, hX⟩, by (try simp only); omega⟩
                | exact ⟨(i + 1, _, _, (giveX (openX px (ow (gr L i))) (ow (gr L i)) (mo (gr L i))), ov), ⟨rfl, rfl, rfl, rfl, rfl, trivial⟩, ⟨by (try simp only); omega, hI.next_ok (by omega) (by omega) (by omega) h6_13 h8_6, m1_1, hR8_5, hc8_5, hna8_5, hX⟩, by (try simp only); omega⟩
          · skip
            refine xl_pure rfl rfl rfl (pv_pick_f (v := .bool _) rfl rfl rfl) ?_
            refine xl_nil ?_
            refine xthen_normal ?_
            refine xc_cond_t rfl ?_
            refine xc_seq ?_
            refine xc_region ?_
            refine xl_pure rfl rfl rfl (pv_assign (v := .pointer _) rfl rfl) ?_
            refine xl_pure rfl rfl rfl (pv_assign (v := .int _ _) rfl rfl) ?_
            refine xl_nil ?_
            refine xthen_normal ?_
            refine xc_ret ?_
            refine xthen_ret ?_
            refine xblock_ret ?_
            refine xthen_ret ?_
            refine xthen_ret ?_
            refine xblock_ret ?_
            refine xthen_ret ?_
            refine fin_ret (res2 (v := .pointer _) (x := .int _ _) rfl rfl rfl) ?_
            exact ⟨1, hI.bad (by omega) (by omega), .inr ⟨by decide, rfl⟩, hX⟩
    · skip
      refine xl_nil ?_
      refine xthen_normal ?_
      refine xc_seq ?_
      refine xc_cond_f rfl ?_
      refine xc_exit ?_
      refine xthen_exit ?_
      refine xthen_exit ?_
      refine xblock_same ?_
      refine xthen_normal ?_
      refine xc_seq ?_
      refine xc_seq ?_
      refine xc_region ?_
      refine xl_pure rfl rfl rfl (pv_move (v := .bool _) rfl rfl) ?_
      cases ov
      · skip
        refine xl_nil ?_
        refine xthen_normal ?_
        refine xc_cond_f rfl ?_
        refine xc_skip ?_
        refine xthen_normal ?_
        refine xc_seq ?_
        refine xc_region ?_
        refine xl_pure rfl rfl rfl (pv_move (v := .pointer _) rfl rfl) ?_
        refine xl_pure rfl rfl rfl (pv_assign (v := .pointer _) rfl rfl) ?_
        refine xl_pure rfl rfl rfl (pv_assign (v := .int _ _) rfl rfl) ?_
        refine xl_nil ?_
        refine xthen_normal ?_
        refine xc_ret ?_
        refine fin_ret (res2 (v := .pointer _) (x := .int _ _) rfl rfl rfl) ?_
        obtain rfl : i = L.length := by omega
        obtain ⟨k1, rfl, k3⟩ := hI.done
        exact ⟨0, k1, .inl ⟨rfl, ⟨_, _, _, rfl, gb1_1, m1_1, hR, hc1, hna1⟩, k3⟩, hX⟩
      · skip
        refine xl_nil ?_
        refine xthen_normal ?_
        refine xc_cond_t rfl ?_
        refine xc_seq ?_
        refine xc_region ?_
        refine xl_pure rfl rfl rfl (pv_assign (v := .pointer _) rfl rfl) ?_
        refine xl_pure rfl rfl rfl (pv_assign (v := .int _ _) rfl rfl) ?_
        refine xl_nil ?_
        refine xthen_normal ?_
        refine xc_ret ?_
        refine xthen_ret ?_
        refine fin_ret (res2 (v := .pointer _) (x := .int _ _) rfl rfl rfl) ?_
        obtain rfl : i = L.length := by omega
        exact ⟨5, hI.over, .inr ⟨by decide, rfl⟩, hX⟩

theorem c7 {O : Outer} {H : Heap}  :
    FnC Try.prog 7 #[] O H (fun v H' => v = .bool true ∧ Ext H H') := by
  refine fn_enter (A := []) Try.func7 rfl rfl ?_
  have hX := Ext.refl H
  refine xc_seq ?_
  refine xc_region ?_
  refine xl_pure rfl rfl rfl (pv_assign (v := .bool _) rfl rfl) ?_
  refine xl_nil ?_
  refine xthen_normal ?_
  refine xc_seq ?_
  refine xc_region ?_
  refine xl_pure rfl rfl rfl (pv_build_s (cs := [.slice _ _ _, .int _ _]) rfl rfl rfl) ?_
  refine xl_heavy rfl rfl rfl (hv_box rfl rfl) ?_
  rintro v1_1 H1_1 ⟨b1_1, rfl, hN1_1⟩
  have gb1_1 := hX.fresh hN1_1
  have hX := hX.trans hN1_1.ext
  have m1_1 := hN1_1.blk
  refine xl_pure rfl rfl rfl (pv_assign (v := .pointer _) rfl rfl) ?_
  refine xl_nil ?_
  refine xthen_normal ?_
  refine xc_seq ?_
  refine xc_seq ?_
  refine xc_region ?_
  refine xl_pure rfl rfl rfl (pv_move (v := .pointer _) rfl rfl) ?_
  refine xl_heavy rfl rfl rfl (hv_call (g := 19) rfl rfl (c19 (x := []) m1_1 (RowsT.nil) (Nat.le_refl _) (fun _ => rfl) (by decide) (goo_of (by decide) (by decide) (by decide) (by decide)) 1) rfl) ?_
  rintro v2_1 H2_1 ⟨a2_1, c2_1, hv2_1, hB2_1, hT2_1, hR2_1, hc2_1, hna2_1⟩
  have hX := hX.upd hB2_1 gb1_1
  have m1_1 := hT2_1
  have e2_1 : openX [] 1 = [[1, 0]] := by decide
  rw [e2_1] at m1_1 hR2_1 hc2_1
  obtain rfl : v2_1 = .int .i64 0 := hv2_1.trans (congrArg (Value.int .i64) (by decide))
  refine xl_ndec rfl rfl rfl (pv_neq rfl rfl rfl) (fun h2_2 => ?_) (fun h2_2 => ?_)
  · skip
    refine xl_pure rfl rfl rfl (pv_move (v := .bool _) rfl rfl) ?_
    refine xl_pure rfl rfl rfl (pv_move (v := .pointer _) rfl rfl) ?_
    refine xl_heavy rfl rfl rfl (hv_call (g := 19) rfl rfl (c19 (x := [[1, 0]]) m1_1 hR2_1 hc2_1 hna2_1 (by decide) (goo_of (by decide) (by decide) (by decide) (by decide)) 2) rfl) ?_
    rintro v2_5 H2_5 ⟨a2_5, c2_5, hv2_5, hB2_5, hT2_5, hR2_5, hc2_5, hna2_5⟩
    have hR2_1 := hR2_1.offT m1_1 hB2_5 (by first | rfl | assumption)
    have hX := hX.upd hB2_5 gb1_1
    have m1_1 := hT2_5
    have e2_5 : openX [[1, 0]] 2 = [[1, 0], [2, 0]] := by decide
    rw [e2_5] at m1_1 hR2_5 hc2_5
    obtain rfl : v2_5 = .int .i64 0 := hv2_5.trans (congrArg (Value.int .i64) (by decide))
    refine xl_ndec rfl rfl rfl (pv_neq rfl rfl rfl) (fun h2_6 => ?_) (fun h2_6 => ?_)
    · skip
      refine xl_pure rfl rfl rfl (pv_pick_f (v := .bool _) rfl rfl rfl) ?_
      refine xl_pure rfl rfl rfl (pv_move (v := .bool _) rfl rfl) ?_
      refine xl_pure rfl rfl rfl (pv_move (v := .pointer _) rfl rfl) ?_
      refine xl_heavy rfl rfl rfl (hv_call (g := 19) rfl rfl (c19 (x := [[1, 0], [2, 0]]) m1_1 hR2_5 hc2_5 hna2_5 (by decide) (goo_of (by decide) (by decide) (by decide) (by decide)) 1) rfl) ?_
      rintro v2_10 H2_10 ⟨a2_10, c2_10, hv2_10, hB2_10, hT2_10, hR2_10, hc2_10, hna2_10⟩
      have hR2_1 := hR2_1.offT m1_1 hB2_10 (by first | rfl | assumption)
      have hR2_5 := hR2_5.offT m1_1 hB2_10 (by first | rfl | assumption)
      have hX := hX.upd hB2_10 gb1_1
      have m1_1 := hT2_10
      have e2_10 : openX [[1, 0], [2, 0]] 1 = [[1, 0], [2, 0]] := by decide
      rw [e2_10] at m1_1 hR2_10 hc2_10
      obtain rfl : v2_10 = .int .i64 9 := hv2_10.trans (congrArg (Value.int .i64) (by decide))
      refine xl_ndec rfl rfl rfl (pv_neq rfl rfl rfl) (fun h2_11 => ?_) (fun h2_11 => ?_)
      · skip
        refine xl_pure rfl rfl rfl (pv_pick_f (v := .bool _) rfl rfl rfl) ?_
        refine xl_pure rfl rfl rfl (pv_move (v := .bool _) rfl rfl) ?_
        refine xl_pure rfl rfl rfl (pv_move (v := .pointer _) rfl rfl) ?_
        refine xl_heavy rfl rfl rfl (hv_call (g := 21) rfl rfl (c21 (x := [[1, 0], [2, 0]]) m1_1 hR2_10 hc2_10 hna2_10 (by decide) (goo_of (by decide) (by decide) (by decide) (by decide)) 1 10 (by decide)) rfl) ?_
        rintro v2_15 H2_15 ⟨a2_15, c2_15, hv2_15, hB2_15, hT2_15, hR2_15, hc2_15, hna2_15⟩
        have hR2_1 := hR2_1.offT m1_1 hB2_15 (by first | rfl | assumption)
        have hR2_5 := hR2_5.offT m1_1 hB2_15 (by first | rfl | assumption)
        have hR2_10 := hR2_10.offT m1_1 hB2_15 (by first | rfl | assumption)
        have hX := hX.upd hB2_15 gb1_1
        have m1_1 := hT2_15
        have e2_15 : giveX [[1, 0], [2, 0]] 1 10 = [[1, 10], [2, 0]] := by decide
        rw [e2_15] at m1_1 hR2_15 hc2_15
        obtain rfl : v2_15 = .int .i64 0 := hv2_15.trans (congrArg (Value.int .i64) (by decide))
        refine xl_ndec rfl rfl rfl (pv_neq rfl rfl rfl) (fun h2_16 => ?_) (fun h2_16 => ?_)
        · skip
          refine xl_pure rfl rfl rfl (pv_pick_f (v := .bool _) rfl rfl rfl) ?_
          refine xl_pure rfl rfl rfl (pv_move (v := .bool _) rfl rfl) ?_
          refine xl_pure rfl rfl rfl (pv_move (v := .pointer _) rfl rfl) ?_
          refine xl_heavy rfl rfl rfl (hv_call (g := 17) rfl rfl (c17 (x := [[1, 10], [2, 0]]) m1_1 hR2_15 hc2_15 hna2_15 (by decide) (goo_of (by decide) (by decide) (by decide) (by decide)) 1 2 11) rfl) ?_
          rintro v2_20 H2_20 ⟨a2_20, c2_20, hv2_20, hB2_20, hT2_20, hR2_20, hc2_20, hna2_20⟩
          have hR2_1 := hR2_1.offT m1_1 hB2_20 (by first | rfl | assumption)
          have hR2_5 := hR2_5.offT m1_1 hB2_20 (by first | rfl | assumption)
          have hR2_10 := hR2_10.offT m1_1 hB2_20 (by first | rfl | assumption)
          have hR2_15 := hR2_15.offT m1_1 hB2_20 (by first | rfl | assumption)
          have hX := hX.upd hB2_20 gb1_1
          have m1_1 := hT2_20
          have e2_20 : moveX [[1, 10], [2, 0]] 1 2 11 = [[1, 10], [2, 0]] := by decide
          rw [e2_20] at m1_1 hR2_20 hc2_20
          obtain rfl : v2_20 = .int .i64 6 := hv2_20.trans (congrArg (Value.int .i64) (by decide))
          refine xl_ndec rfl rfl rfl (pv_neq rfl rfl rfl) (fun h2_21 => ?_) (fun h2_21 => ?_)
          · skip
            refine xl_pure rfl rfl rfl (pv_pick_f (v := .bool _) rfl rfl rfl) ?_
            refine xl_pure rfl rfl rfl (pv_move (v := .bool _) rfl rfl) ?_
            refine xl_pure rfl rfl rfl (pv_move (v := .pointer _) rfl rfl) ?_
            refine xl_heavy rfl rfl rfl (hv_call (g := 17) rfl rfl (c17 (x := [[1, 10], [2, 0]]) m1_1 hR2_20 hc2_20 hna2_20 (by decide) (goo_of (by decide) (by decide) (by decide) (by decide)) 1 2 4) rfl) ?_
            rintro v2_25 H2_25 ⟨a2_25, c2_25, hv2_25, hB2_25, hT2_25, hR2_25, hc2_25, hna2_25⟩
            have hR2_1 := hR2_1.offT m1_1 hB2_25 (by first | rfl | assumption)
            have hR2_5 := hR2_5.offT m1_1 hB2_25 (by first | rfl | assumption)
            have hR2_10 := hR2_10.offT m1_1 hB2_25 (by first | rfl | assumption)
            have hR2_15 := hR2_15.offT m1_1 hB2_25 (by first | rfl | assumption)
            have hR2_20 := hR2_20.offT m1_1 hB2_25 (by first | rfl | assumption)
            have hX := hX.upd hB2_25 gb1_1
            have m1_1 := hT2_25
            have e2_25 : moveX [[1, 10], [2, 0]] 1 2 4 = [[1, 6], [2, 4]] := by decide
            rw [e2_25] at m1_1 hR2_25 hc2_25
            obtain rfl : v2_25 = .int .i64 0 := hv2_25.trans (congrArg (Value.int .i64) (by decide))
            refine xl_ndec rfl rfl rfl (pv_neq rfl rfl rfl) (fun h2_26 => ?_) (fun h2_26 => ?_)
            · skip
              refine xl_pure rfl rfl rfl (pv_pick_f (v := .bool _) rfl rfl rfl) ?_
              refine xl_nil ?_
              refine xthen_normal ?_
              refine xc_cond_f rfl ?_
              refine xc_skip ?_
              refine xthen_normal ?_
              refine xc_seq ?_
              refine xc_region ?_
              refine xl_pure rfl rfl rfl (pv_move (v := .pointer _) rfl rfl) ?_
              refine xl_heavy rfl rfl rfl (hv_call (g := 22) rfl rfl (c22 (x := [[1, 6], [2, 4]]) m1_1 hR2_25 hc2_25 hna2_25 (by decide) (goo_of (by decide) (by decide) (by decide) (by decide)) 2) rfl) ?_
              rintro v4_1 H4_1 ⟨hv4_1, hE4_1⟩
              have m1_1 := m1_1.ext hE4_1
              have hR2_1 := hR2_1.ext hE4_1
              have hR2_5 := hR2_5.ext hE4_1
              have hR2_10 := hR2_10.ext hE4_1
              have hR2_15 := hR2_15.ext hE4_1
              have hR2_20 := hR2_20.ext hE4_1
              have hR2_25 := hR2_25.ext hE4_1
              have hX := hX.trans hE4_1
              obtain rfl : v4_1 = .tuple #[.int .i64 4, .int .i64 0] := by rcases hv4_1 with ⟨_, h⟩ | ⟨h, _⟩; exact h.trans (congrArg (fun z => Value.tuple #[.int .i64 z, .int .i64 0]) (by decide : mon [[1, 6], [2, 4]] 2 = 4)); exact absurd h (by decide)
              refine xl_pure rfl rfl rfl (pv_move (v := .tuple _) rfl rfl) ?_
              refine xl_pure rfl rfl rfl (pv_extract (v := .int _ _) rfl rfl rfl) ?_
              refine xl_pure rfl rfl rfl (pv_extract (v := .int _ _) rfl rfl rfl) ?_
              refine xl_pure rfl rfl rfl (pv_assign (v := .int _ _) rfl rfl) ?_
              refine xl_pure rfl rfl rfl (pv_assign (v := .int _ _) rfl rfl) ?_
              refine xl_nil ?_
              refine xthen_normal ?_
              refine xc_seq ?_
              refine xc_region ?_
              refine xl_pure rfl rfl rfl (pv_move (v := .int _ _) rfl rfl) ?_
              refine xl_dec rfl rfl rfl (pv_eql rfl rfl rfl) (fun h5_1 => ?_) (fun h5_1 => ?_)
              · skip
                refine xl_pure rfl rfl rfl (pv_move (v := .bool _) rfl rfl) ?_
                refine xl_pure rfl rfl rfl (pv_move (v := .int _ _) rfl rfl) ?_
                refine xl_dec rfl rfl rfl (pv_eql rfl rfl rfl) (fun h5_4 => ?_) (fun h5_4 => ?_)
                · skip
                  refine xl_pure rfl rfl rfl (pv_pick_t (v := .bool _) rfl rfl rfl) ?_
                  refine xl_pure rfl rfl rfl (pv_move (v := .bool _) rfl rfl) ?_
                  refine xl_pure rfl rfl rfl (pv_move (v := .pointer _) rfl rfl) ?_
                  refine xl_heavy rfl rfl rfl (hv_call (g := 14) rfl rfl (c14 (x := [[1, 6], [2, 4]]) m1_1) rfl) ?_
                  rintro v5_8 H5_8 ⟨hv5_8, rfl⟩
                  obtain rfl : v5_8 = .int .i64 10 := hv5_8
                  refine xl_dec rfl rfl rfl (pv_eql rfl rfl rfl) (fun h5_9 => ?_) (fun h5_9 => ?_)
                  · skip
                    refine xl_pure rfl rfl rfl (pv_pick_t (v := .bool _) rfl rfl rfl) ?_
                    refine xl_pure rfl rfl rfl (pv_move (v := .bool _) rfl rfl) ?_
                    refine xl_pure rfl rfl rfl (pv_move (v := .pointer _) rfl rfl) ?_
                    refine xl_heavy rfl rfl rfl (hv_call (g := 13) rfl rfl (c13 (x := [[1, 6], [2, 4]]) m1_1 hR2_25 hc2_25 hna2_25 (by decide) (goo_of (by decide) (by decide) (by decide) (by decide))) rfl) ?_
                    rintro v5_13 H5_13 ⟨a5_13, c5_13, rfl, hQ5_13, hE5_13⟩
                    have m1_1 := m1_1.ext hE5_13
                    have hR2_1 := hR2_1.ext hE5_13
                    have hR2_5 := hR2_5.ext hE5_13
                    have hR2_10 := hR2_10.ext hE5_13
                    have hR2_15 := hR2_15.ext hE5_13
                    have hR2_20 := hR2_20.ext hE5_13
                    have hR2_25 := hR2_25.ext hE5_13
                    have hX := hX.trans hE5_13
                    refine xl_pure rfl rfl rfl (pv_build_s (cs := [.int _ _, .int _ _]) rfl rfl rfl) ?_
                    refine xl_pure rfl rfl rfl (pv_build_s (cs := [.int _ _, .int _ _]) rfl rfl rfl) ?_
                    refine xl_heavy rfl rfl rfl (hv_buildSlice (cs := [.int _ _, .int _ _, .int _ _, .int _ _]) rfl rfl rfl rfl rfl) ?_
                    rintro v5_16 H5_16 ⟨b5_16, rfl, hN5_16⟩
                    have gb5_16 := hX.fresh hN5_16
                    have nm1_1_5_16 := m1_1.apart hN5_16
                    have m1_1 := m1_1.ext hN5_16.ext
                    have hR2_1 := hR2_1.ext hN5_16.ext
                    have hR2_5 := hR2_5.ext hN5_16.ext
                    have hR2_10 := hR2_10.ext hN5_16.ext
                    have hR2_15 := hR2_15.ext hN5_16.ext
                    have hR2_20 := hR2_20.ext hN5_16.ext
                    have hR2_25 := hR2_25.ext hN5_16.ext
                    have hQ5_13 := hQ5_13.ext hN5_16.ext
                    have hX := hX.trans hN5_16.ext
                    have m5_16 := hN5_16.blk
                    refine xl_heavy rfl rfl rfl (hv_call (g := 12) rfl rfl (c12 [[1, 6], [2, 4]] [[1, 6], [2, 4]] _ _ _ _ hQ5_13.rows ⟨hQ5_13.wide, .inr ⟨_, 0, rfl, blk_rows hQ5_13.wide m5_16 rfl⟩⟩ (by decide)) rfl) ?_
                    rintro v5_17 H5_17 ⟨r5_17, rfl, hb5_17, rfl⟩
                    obtain rfl : r5_17 = true := hb5_17.2 rfl
                    refine xl_pure rfl rfl rfl (pv_pick_t (v := .bool _) rfl rfl rfl) ?_
                    refine xl_pure rfl rfl rfl (pv_assign (v := .bool _) rfl rfl) ?_
                    refine xl_nil ?_
                    refine xthen_normal ?_
                    refine xc_ret ?_
                    refine fin_ret (res1 (v := .bool _) rfl rfl) ?_
                    exact ⟨rfl, hX⟩
                  · exact absurd rfl h5_9
                · exact absurd rfl h5_4
              · exact absurd rfl h5_1
            · exact absurd rfl h2_26
          · exact absurd rfl h2_21
        · exact absurd rfl h2_16
      · exact absurd rfl h2_11
    · exact absurd rfl h2_6
  · exact absurd rfl h2_2
end Go.XG
