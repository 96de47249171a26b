/-
  Walks of the seat's functions over the logic XG: each function, what it computes. Printed by a program out of wip/walks.py.
-/
import Derived.Test.YtnbgdklgcoofkaaI
import Derived.Test.YtnbgdklgcoofkaaTo
import Derived.Test.YtnbgdklgcoofkaaTa
import Derived.Test.YtnbgdklgcoofkaaTb
import Derived.Test.YtnbgdklgcoofkaaTc
import Derived.Test.YtnbgdklgcoofkaaTd
import Derived.Test.YtnbgdklgcoofkaaP
import Derived.Test.YtnbgdklgcoofkaaWa
import Derived.Test.YtnbgdklgcoofkaaWb
import Derived.Test.YtnbgdklgcoofkaaWc
import Derived.Test.YtnbgdklgcoofkaaQ
import Derived.Test.YtnbgdklgcoofkaaWd
import Derived.Test.YtnbgdklgcoofkaaWe
namespace Go.XG
open Go.Proofs
set_option maxRecDepth 4000
set_option maxHeartbeats 4000000
theorem c16 {O : Outer} {H : Heap} {al : Option Addr} {cl : Nat} {L : List (List Int)} (hL : Rows H al 9 L) (hLl : L.length ≤ 64) (w : Int) :
    FnC Try.prog 16 #[.slice al L.length cl, .int .i64 w] O H (fun v H' => ((∃ b a' c' l, v = .tuple #[.pointer (some ⟨b, 0, none⟩), .int .i64 0] ∧ (1 ≤ w ∧ w ≤ 1099511627776) ∧ Fresh H b ∧ Blk H' b [.slice a' (l).length c', .int .i64 (w - 1)] 29 ∧ RowsT H' 75 13 a' l ∧ l.length ≤ c' ∧ (a' = none → c' = 0) ∧ Goo l ∧ l.length ≤ L.length) ∨ ∃ e, v = .tuple #[.pointer none, .int .i64 e] ∧ e ≠ 0) ∧ Ext H H') := by
  refine fn_enter (A := [.slice al L.length cl, .int .i64 w]) Try.func16 rfl rfl ?_
  have hX := Ext.refl H
  refine xc_seq ?_
  refine xc_region ?_
  refine xl_pure rfl rfl rfl (pv_assign (v := .pointer _) rfl rfl) ?_
  refine xl_pure rfl rfl rfl (pv_assign (v := .int _ _) rfl rfl) ?_
  refine xl_nil ?_
  refine xthen_normal ?_
  refine xc_seq ?_
  refine xc_seq ?_
  refine xc_region ?_
  refine xl_pure rfl rfl rfl (pv_move (v := .int _ _) rfl rfl) ?_
  refine xl_heavy rfl rfl rfl (hv_call (g := 29) rfl rfl (c29 (w) (1) (1099511627776)) rfl) ?_
  rintro v1_1 H1_1 ⟨hv1_1, rfl⟩
  rcases hv1_1 with ⟨hi1_1, rfl⟩ | ⟨hi1_1, rfl⟩
  · skip
    refine xl_pure rfl rfl rfl (pv_not rfl rfl) ?_
    refine xl_pure rfl rfl rfl (pv_move (v := .bool _) rfl rfl) ?_
    refine xl_pure rfl rfl rfl (pv_move (v := .slice _ _ _) rfl rfl) ?_
    refine xl_pure rfl rfl rfl (pv_len_l rfl rfl) ?_
    refine xl_dec rfl rfl rfl (pv_gtr rfl rfl rfl) (fun h1_6 => ?_) (fun h1_6 => ?_)
    · skip
      refine xl_pure rfl rfl rfl (pv_pick_f (v := .bool _) rfl rfl rfl) ?_
      refine xl_nil ?_
      refine xthen_normal ?_
      refine xc_cond_t rfl ?_
      refine xc_seq ?_
      refine xc_region ?_
      refine xl_pure rfl rfl rfl (pv_assign (v := .pointer _) rfl rfl) ?_
      refine xl_pure rfl rfl rfl (pv_assign (v := .int _ _) rfl rfl) ?_
      refine xl_nil ?_
      refine xthen_normal ?_
      refine xc_ret ?_
      refine xthen_ret ?_
      refine fin_ret (res2 (v := .pointer _) (x := .int _ _) rfl rfl rfl) ?_
      exact ⟨.inr ⟨1, rfl, by decide⟩, hX⟩
    · skip
      refine xl_pure rfl rfl rfl (pv_pick_f (v := .bool _) rfl rfl rfl) ?_
      refine xl_nil ?_
      refine xthen_normal ?_
      refine xc_cond_f rfl ?_
      refine xc_skip ?_
      refine xthen_normal ?_
      refine xc_seq ?_
      refine xc_region ?_
      refine xl_pure rfl rfl rfl (pv_move (v := .int _ _) rfl rfl) ?_
      refine xl_pure rfl rfl rfl (pv_sub rfl rfl rfl (fit_i64 (by omega))) ?_
      refine xl_pure rfl rfl rfl (pv_build_s (cs := [.slice _ _ _, .int _ _]) rfl rfl rfl) ?_
      refine xl_heavy rfl rfl rfl (hv_box rfl rfl) ?_
      rintro v3_3 H3_3 ⟨b3_3, rfl, hN3_3⟩
      have gb3_3 := hX.fresh hN3_3
      have hX := hX.trans hN3_3.ext
      have m3_3 := hN3_3.blk
      refine xl_pure rfl rfl rfl (pv_assign (v := .pointer _) rfl rfl) ?_
      refine xl_nil ?_
      refine xthen_normal ?_
      refine xc_seq ?_
      refine xc_seq ?_
      refine xc_region ?_
      refine xl_pure rfl rfl rfl (pv_move (v := .slice _ _ _) rfl rfl) ?_
      refine xl_pure rfl rfl rfl (pv_len_l rfl rfl) ?_
      refine xl_pure rfl rfl rfl (pv_move (v := .int _ _) rfl rfl) ?_
      refine xl_nil ?_
      refine xthen_normal ?_
      refine xc_block ?_
      refine xc_loop (τ := Nat × Option Addr × Nat × List (List Int)) (fun t => [(6, .pointer (some ⟨b3_3, 0, none⟩)), (21, .slice al L.length cl), (22, .int .i64 (L.length : Nat)), (23, .int .i64 (t.1 : Nat))]) (fun t H' => (t.1 ≤ L.length) ∧ (Goo t.2.2.2) ∧ (t.2.2.2.length ≤ t.1) ∧ (Blk H' b3_3 [.slice t.2.1 (t.2.2.2).length t.2.2.1, .int .i64 (w - 1)] 29) ∧ (RowsT H' 75 13 t.2.1 t.2.2.2) ∧ (t.2.2.2.length ≤ t.2.2.1) ∧ (t.2.1 = none → t.2.2.1 = 0) ∧ (Ext H H')) (fun t H' => L.length - t.1) (0, none, 0, []) ?_ ?_ ?_
      · exact ⟨rfl, rfl, rfl, rfl, trivial⟩
      · skip
        exact ⟨Nat.zero_le _, goo_nil, Nat.le_refl _, m3_3, RowsT.nil, Nat.le_refl _, fun _ => rfl, hX⟩
      · intro σ
        clear hX m3_3
        rintro ⟨i, a1, c1, l⟩ Hl5 ⟨hi, hgl, hll, m3_3, hR, hc1, hna1, hX⟩
        replace hi : i ≤ L.length := hi
        replace hgl : Goo l := hgl
        replace hll : l.length ≤ i := hll
        replace m3_3 : Blk Hl5 b3_3 [.slice a1 (l).length c1, .int .i64 (w - 1)] 29 := m3_3
        replace hR : RowsT Hl5 75 13 a1 l := hR
        replace hc1 : l.length ≤ c1 := hc1
        replace hna1 : a1 = none → c1 = 0 := hna1
        replace hX : Ext H Hl5 := hX
        obtain ⟨bl, ofl, hLe⟩ := (hL.ext hX).at'
        show XC _ _ _ (upds σ [(6, .pointer (some ⟨b3_3, 0, none⟩)), (21, .slice al L.length cl), (22, .int .i64 (L.length : Nat)), (23, .int .i64 (i : Nat))]) _
        refine xc_seq ?_
        refine xc_region ?_
        refine xl_dec rfl rfl rfl (pv_lss rfl rfl rfl) (fun h5_0 => ?_) (fun h5_0 => ?_)
        · skip
          refine xl_nil ?_
          refine xthen_normal ?_
          refine xc_seq ?_
          refine xc_cond_t rfl ?_
          refine xc_skip ?_
          refine xthen_normal ?_
          refine xc_seq ?_
          refine xc_block ?_
          refine xc_seq ?_
          obtain ⟨d0, d1, d2, d3, d4, d5, d6, d7, d8, hd⟩ := nine (hL.1.get (show i < L.length by omega))
          refine xc_region ?_
          refine xl_pure rfl rfl rfl (pv_indexAddr_l rfl (sl_eq (hLe (by omega)).1) rfl (by omega)) ?_
          refine xl_light rfl rfl rfl (lv_load (v := .agg _) rfl rfl (by have e := ld_row' (i := i) (hLe (by omega)).2 hL.1 (by omega); rw [hd] at e; exact e)) ?_
          refine xl_heavy rfl rfl rfl (hv_alloc rfl rfl) ?_
          rintro v6_2 H6_2 ⟨b6_2, rfl, hN6_2⟩
          have gb6_2 := hX.fresh hN6_2
          have nm3_3_6_2 := m3_3.apart hN6_2
          have m3_3 := m3_3.ext hN6_2.ext
          have hR := hR.ext hN6_2.ext
          have hX := hX.trans hN6_2.ext
          have m6_2 := hN6_2.blk
          refine xl_store rfl rfl (hv_storeA (vs := [.int _ _, .int _ _, .int _ _, .int _ _, .int _ _, .int _ _, .int _ _, .int _ _, .int _ _]) rfl rfl rfl (m6_2) rfl (by rfl) rfl) ?_
          rintro v6_3 H6_3 ⟨hU6_3, hZ6_3⟩
          have m3_3 := m3_3.off hU6_3.but (by first | exact nm3_3_6_2 | exact ⟨m3_3.ne m6_2 rfl⟩ | exact ⟨m3_3.ne m6_2 (by assumption)⟩ | exact ⟨Ne.symm (m6_2.ne m3_3 (by assumption))⟩)
          have hR := hR.offT m6_2 hU6_3.but (by first | rfl | assumption)
          have hX := hX.upd hU6_3.but gb6_2
          have m6_2 := hU6_3.blk
          refine xl_nil ?_
          refine xthen_normal ?_
          refine xc_seq ?_
          refine xp_start rfl (by repeat (first | with_reducible exact np_fin | with_reducible refine np_then ?_ | with_reducible refine np_block ?_)) (by kernel_rfl) ?_
          refine xp_light (i := 0) rfl (by kernel_rfl) (by kernel_rfl) rfl rfl rfl (lv_load (v := .agg _) rfl rfl (ld_blk_a m6_2 rfl rfl)) ?_
          refine xp_heavy (i := 1) (by kernel_rfl) ?_
          refine xph_val rfl rfl rfl rfl (hv_call (g := 18) rfl rfl (c18 d0 d1 d2 d3 d4 d5 d6 d7 d8) rfl) (pd (by kernel_rfl) pn) ?_
          rintro v7_1 H7_1 ⟨hv7_1, hE7_1⟩
          have m3_3 := m3_3.ext hE7_1
          have hR := hR.ext hE7_1
          have m6_2 := m6_2.ext hE7_1
          have hX := hX.trans hE7_1
          refine ⟨okn, ?_⟩
          rcases hv7_1 with ⟨hi7_1, rfl⟩ | ⟨hi7_1, rfl⟩
          · skip
            refine xp_pure (i := 2) rfl (by kernel_rfl) (by kernel_rfl) rfl rfl rfl (pv_not rfl rfl) ?_
            refine xp_pure (i := 3) rfl (by kernel_rfl) (by kernel_rfl) rfl rfl rfl (pv_move (v := .bool _) rfl rfl) ?_
            refine xp_pure (i := 4) rfl (by kernel_rfl) (by kernel_rfl) rfl rfl rfl (pv_fieldAddr rfl rfl) ?_
            refine xp_light (i := 5) rfl (by kernel_rfl) (by kernel_rfl) rfl rfl rfl (lv_load (v := .int _ _) rfl rfl (ld_blk m6_2 rfl)) ?_
            refine xp_pure (i := 6) rfl (by kernel_rfl) (by kernel_rfl) rfl rfl rfl (pv_move (v := .pointer _) rfl rfl) ?_
            refine xp_pure (i := 7) rfl (by kernel_rfl) (by kernel_rfl) rfl rfl rfl (pv_nilCheck_p rfl rfl) ?_
            refine xp_pure (i := 8) rfl (by kernel_rfl) (by kernel_rfl) rfl rfl rfl (pv_fieldAddr rfl rfl) ?_
            refine xp_light (i := 9) rfl (by kernel_rfl) (by kernel_rfl) rfl rfl rfl (lv_load (v := .int _ _) rfl rfl (ld_blk m3_3 rfl)) ?_
            refine xp_heavy (i := 10) (by kernel_rfl) ?_
            refine xph_val rfl rfl rfl rfl (hv_call (g := 29) rfl rfl (c29 (d0) (1) (w - 1)) rfl) (pd (by kernel_rfl) (pd (by kernel_rfl) pn)) ?_
            rintro v7_10 H7_10 ⟨hv7_10, rfl⟩
            refine ⟨okn, ?_⟩
            rcases hv7_10 with ⟨hi7_10, rfl⟩ | ⟨hi7_10, rfl⟩
            · skip
              refine xp_pure (i := 11) rfl (by kernel_rfl) (by kernel_rfl) rfl rfl rfl (pv_not rfl rfl) ?_
              refine xp_pure (i := 12) rfl (by kernel_rfl) (by kernel_rfl) rfl rfl rfl (pv_pick_f (v := .bool _) rfl rfl rfl) ?_
              refine xp_pure (i := 13) rfl (by kernel_rfl) (by kernel_rfl) rfl rfl rfl (pv_move (v := .bool _) rfl rfl) ?_
              refine xp_pure (i := 14) rfl (by kernel_rfl) (by kernel_rfl) rfl rfl rfl (pv_move (v := .pointer _) rfl rfl) ?_
              refine xp_pure (i := 15) rfl (by kernel_rfl) (by kernel_rfl) rfl rfl rfl (pv_nilCheck_p rfl rfl) ?_
              refine xp_pure (i := 16) rfl (by kernel_rfl) (by kernel_rfl) rfl rfl rfl (pv_fieldAddr rfl rfl) ?_
              refine xp_pure (i := 17) rfl (by kernel_rfl) (by kernel_rfl) rfl rfl rfl (pv_fieldAddr rfl rfl) ?_
              refine xp_light (i := 18) rfl (by kernel_rfl) (by kernel_rfl) rfl rfl rfl (lv_load (v := .int _ _) rfl rfl (ld_blk m6_2 rfl)) ?_
              refine xp_light (i := 20) rfl (by kernel_rfl) (by kernel_rfl) rfl rfl rfl (lv_load (v := .agg _) rfl rfl (ld_blk_a m6_2 rfl rfl)) ?_
              refine xp_heavy (i := 19) (by kernel_rfl) ?_
              refine xph_val rfl rfl rfl rfl (hv_call (g := 21) rfl rfl (c21 d0) rfl) (pk (by kernel_rfl) (pd (by kernel_rfl) pn)) ?_
              rintro v7_19 H7_19 ⟨rfl, hE7_19⟩
              have m3_3 := m3_3.ext hE7_19
              have hR := hR.ext hE7_19
              have m6_2 := m6_2.ext hE7_19
              have hX := hX.trans hE7_19
              refine ⟨(okc (lv_load (v := .agg _) rfl rfl (ld_blk_a m6_2 rfl rfl)) okn), ?_⟩
              refine xp_heavy (i := 21) (by kernel_rfl) ?_
              refine xph_val rfl rfl rfl rfl (hv_call (g := 20) rfl rfl (c20 m3_3 hR rfl hgl.srt hc1 hna1 (by omega) [d0, 0, 0, 0] rfl [d0, d1, d2, d3, d4, d5, d6, d7, d8] rfl) rfl) (pd (by kernel_rfl) pn) ?_
              rintro v7_21 H7_21 ⟨a7_21, c7_21, hv7_21, hU7_21, hR7_21, hc7_21, hna7_21⟩
              have hR := hR.offT m3_3 hU7_21.but (by first | rfl | assumption)
              have m6_2 := m6_2.off hU7_21.but (by first | exact nm3_3_6_2.symm | exact ⟨m6_2.ne m3_3 rfl⟩ | exact ⟨m6_2.ne m3_3 (by assumption)⟩ | exact ⟨Ne.symm (m3_3.ne m6_2 (by assumption))⟩)
              have hX := hX.upd hU7_21.but gb3_3
              have m3_3 := hU7_21.blk
              refine ⟨okn, ?_⟩
              cases hh : hasK l [d0, 0, 0, 0]
              · skip
                rw [hh] at hv7_21
                subst hv7_21
                refine xp_pure (i := 22) rfl (by kernel_rfl) (by kernel_rfl) rfl rfl rfl (pv_not rfl rfl) ?_
                refine xp_pure (i := 23) rfl (by kernel_rfl) (by kernel_rfl) rfl rfl rfl (pv_pick_f (v := .bool _) rfl rfl rfl) ?_
                refine xp_done (by kernel_rfl) ?_
                refine xthen_normal ?_
                refine xc_cond_f rfl ?_
                refine xc_skip ?_
                refine xblock_normal ?_
                refine xthen_normal ?_
                refine xc_region ?_
                refine xl_pure rfl rfl rfl (pv_add rfl rfl rfl (fit_i64 (by omega))) ?_
                refine xl_pure rfl rfl rfl (pv_move (v := .int _ _) rfl rfl) ?_
                refine xl_nil ?_
                refine xthen_normal ?_
                exact ⟨(i + 1, _, _, _), ⟨rfl, rfl, rfl, rfl, trivial⟩, ⟨by (try simp only); omega, hgl.put rfl hi7_1, Nat.le_trans (put_len _ _) (by omega), m3_3, hR7_21, hc7_21, hna7_21, hX⟩, by (try simp only); omega⟩
              · skip
                rw [hh] at hv7_21
                subst hv7_21
                refine xp_pure (i := 22) rfl (by kernel_rfl) (by kernel_rfl) rfl rfl rfl (pv_not rfl rfl) ?_
                refine xp_pure (i := 23) rfl (by kernel_rfl) (by kernel_rfl) rfl rfl rfl (pv_pick_f (v := .bool _) rfl rfl rfl) ?_
                refine xp_done (by kernel_rfl) ?_
                refine xthen_normal ?_
                refine xc_cond_t rfl ?_
                refine xc_seq ?_
                refine xc_region ?_
                refine xl_pure rfl rfl rfl (pv_assign (v := .pointer _) rfl rfl) ?_
                refine xl_pure rfl rfl rfl (pv_assign (v := .int _ _) rfl rfl) ?_
                refine xl_nil ?_
                refine xthen_normal ?_
                refine xc_ret ?_
                refine xblock_ret ?_
                refine xthen_ret ?_
                refine xthen_ret ?_
                refine xblock_ret ?_
                refine xthen_ret ?_
                refine fin_ret (res2 (v := .pointer _) (x := .int _ _) rfl rfl rfl) ?_
                exact ⟨.inr ⟨1, rfl, by decide⟩, hX⟩
            · skip
              refine xp_pure (i := 11) rfl (by kernel_rfl) (by kernel_rfl) rfl rfl rfl (pv_not rfl rfl) ?_
              refine xp_pure (i := 12) rfl (by kernel_rfl) (by kernel_rfl) rfl rfl rfl (pv_pick_f (v := .bool _) rfl rfl rfl) ?_
              refine xp_pure (i := 13) rfl (by kernel_rfl) (by kernel_rfl) rfl rfl rfl (pv_move (v := .bool _) rfl rfl) ?_
              refine xp_skip (i := 14) rfl (by kernel_rfl) (by kernel_rfl) rfl rfl rfl ?_
              refine xp_skip (i := 15) rfl (by kernel_rfl) (by kernel_rfl) rfl rfl rfl ?_
              refine xp_skip (i := 16) rfl (by kernel_rfl) (by kernel_rfl) rfl rfl rfl ?_
              refine xp_skip (i := 17) rfl (by kernel_rfl) (by kernel_rfl) rfl rfl rfl ?_
              refine xp_skip (i := 18) rfl (by kernel_rfl) (by kernel_rfl) rfl rfl rfl ?_
              refine xp_skip (i := 19) rfl (by kernel_rfl) (by kernel_rfl) rfl rfl rfl ?_
              refine xp_skip (i := 20) rfl (by kernel_rfl) (by kernel_rfl) rfl rfl rfl ?_
              refine xp_skip (i := 21) rfl (by kernel_rfl) (by kernel_rfl) rfl rfl rfl ?_
              refine xp_skip (i := 22) rfl (by kernel_rfl) (by kernel_rfl) rfl rfl rfl ?_
              refine xp_pure (i := 23) rfl (by kernel_rfl) (by kernel_rfl) rfl rfl rfl (pv_pick_t (v := .bool _) rfl rfl rfl) ?_
              refine xp_done (by kernel_rfl) ?_
              refine xthen_normal ?_
              refine xc_cond_t rfl ?_
              refine xc_seq ?_
              refine xc_region ?_
              refine xl_pure rfl rfl rfl (pv_assign (v := .pointer _) rfl rfl) ?_
              refine xl_pure rfl rfl rfl (pv_assign (v := .int _ _) rfl rfl) ?_
              refine xl_nil ?_
              refine xthen_normal ?_
              refine xc_ret ?_
              refine xblock_ret ?_
              refine xthen_ret ?_
              refine xthen_ret ?_
              refine xblock_ret ?_
              refine xthen_ret ?_
              refine fin_ret (res2 (v := .pointer _) (x := .int _ _) rfl rfl rfl) ?_
              exact ⟨.inr ⟨1, rfl, by decide⟩, hX⟩
          · skip
            refine xp_pure (i := 2) rfl (by kernel_rfl) (by kernel_rfl) rfl rfl rfl (pv_not rfl rfl) ?_
            refine xp_pure (i := 3) rfl (by kernel_rfl) (by kernel_rfl) rfl rfl rfl (pv_move (v := .bool _) rfl rfl) ?_
            refine xp_skip (i := 4) rfl (by kernel_rfl) (by kernel_rfl) rfl rfl rfl ?_
            refine xp_skip (i := 5) rfl (by kernel_rfl) (by kernel_rfl) rfl rfl rfl ?_
            refine xp_skip (i := 6) rfl (by kernel_rfl) (by kernel_rfl) rfl rfl rfl ?_
            refine xp_skip (i := 7) rfl (by kernel_rfl) (by kernel_rfl) rfl rfl rfl ?_
            refine xp_skip (i := 8) rfl (by kernel_rfl) (by kernel_rfl) rfl rfl rfl ?_
            refine xp_skip (i := 9) rfl (by kernel_rfl) (by kernel_rfl) rfl rfl rfl ?_
            refine xp_skip (i := 10) rfl (by kernel_rfl) (by kernel_rfl) rfl rfl rfl ?_
            refine xp_skip (i := 11) rfl (by kernel_rfl) (by kernel_rfl) rfl rfl rfl ?_
            refine xp_pure (i := 12) rfl (by kernel_rfl) (by kernel_rfl) rfl rfl rfl (pv_pick_t (v := .bool _) rfl rfl rfl) ?_
            refine xp_pure (i := 13) rfl (by kernel_rfl) (by kernel_rfl) rfl rfl rfl (pv_move (v := .bool _) rfl rfl) ?_
            refine xp_skip (i := 14) rfl (by kernel_rfl) (by kernel_rfl) rfl rfl rfl ?_
            refine xp_skip (i := 15) rfl (by kernel_rfl) (by kernel_rfl) rfl rfl rfl ?_
            refine xp_skip (i := 16) rfl (by kernel_rfl) (by kernel_rfl) rfl rfl rfl ?_
            refine xp_skip (i := 17) rfl (by kernel_rfl) (by kernel_rfl) rfl rfl rfl ?_
            refine xp_skip (i := 18) rfl (by kernel_rfl) (by kernel_rfl) rfl rfl rfl ?_
            refine xp_skip (i := 19) rfl (by kernel_rfl) (by kernel_rfl) rfl rfl rfl ?_
            refine xp_skip (i := 20) rfl (by kernel_rfl) (by kernel_rfl) rfl rfl rfl ?_
            refine xp_skip (i := 21) rfl (by kernel_rfl) (by kernel_rfl) rfl rfl rfl ?_
            refine xp_skip (i := 22) rfl (by kernel_rfl) (by kernel_rfl) rfl rfl rfl ?_
            refine xp_pure (i := 23) rfl (by kernel_rfl) (by kernel_rfl) rfl rfl rfl (pv_pick_t (v := .bool _) rfl rfl rfl) ?_
            refine xp_done (by kernel_rfl) ?_
            refine xthen_normal ?_
            refine xc_cond_t rfl ?_
            refine xc_seq ?_
            refine xc_region ?_
            refine xl_pure rfl rfl rfl (pv_assign (v := .pointer _) rfl rfl) ?_
            refine xl_pure rfl rfl rfl (pv_assign (v := .int _ _) rfl rfl) ?_
            refine xl_nil ?_
            refine xthen_normal ?_
            refine xc_ret ?_
            refine xblock_ret ?_
            refine xthen_ret ?_
            refine xthen_ret ?_
            refine xblock_ret ?_
            refine xthen_ret ?_
            refine fin_ret (res2 (v := .pointer _) (x := .int _ _) rfl rfl rfl) ?_
            exact ⟨.inr ⟨1, rfl, by decide⟩, hX⟩
        · skip
          refine xl_nil ?_
          refine xthen_normal ?_
          refine xc_seq ?_
          refine xc_cond_f rfl ?_
          refine xc_exit ?_
          refine xthen_exit ?_
          refine xthen_exit ?_
          refine xblock_same ?_
          refine xthen_normal ?_
          refine xc_seq ?_
          refine xc_region ?_
          refine xl_pure rfl rfl rfl (pv_move (v := .pointer _) rfl rfl) ?_
          refine xl_pure rfl rfl rfl (pv_assign (v := .pointer _) rfl rfl) ?_
          refine xl_pure rfl rfl rfl (pv_assign (v := .int _ _) rfl rfl) ?_
          refine xl_nil ?_
          refine xthen_normal ?_
          refine xc_ret ?_
          refine fin_ret (res2 (v := .pointer _) (x := .int _ _) rfl rfl rfl) ?_
          exact ⟨.inl ⟨_, a1, c1, l, rfl, hi1_1, gb3_3, m3_3, hR, hc1, hna1, hgl, by omega⟩, hX⟩
  · skip
    refine xl_pure rfl rfl rfl (pv_not rfl rfl) ?_
    refine xl_pure rfl rfl rfl (pv_move (v := .bool _) rfl rfl) ?_
    refine xl_skip rfl rfl rfl ?_
    refine xl_skip rfl rfl rfl ?_
    refine xl_skip rfl rfl rfl ?_
    refine xl_pure rfl rfl rfl (pv_pick_t (v := .bool _) rfl rfl rfl) ?_
    refine xl_nil ?_
    refine xthen_normal ?_
    refine xc_cond_t rfl ?_
    refine xc_seq ?_
    refine xc_region ?_
    refine xl_pure rfl rfl rfl (pv_assign (v := .pointer _) rfl rfl) ?_
    refine xl_pure rfl rfl rfl (pv_assign (v := .int _ _) rfl rfl) ?_
    refine xl_nil ?_
    refine xthen_normal ?_
    refine xc_ret ?_
    refine xthen_ret ?_
    refine fin_ret (res2 (v := .pointer _) (x := .int _ _) rfl rfl rfl) ?_
    exact ⟨.inr ⟨1, rfl, by decide⟩, hX⟩

theorem c12 {O : Outer} {H : Heap} {bp c : Nat} {a : Option Addr} {l : List (List Int)} {g : Int} (mp : Blk H bp [.slice a (l).length c, .int .i64 g] 29) (hR : RowsT H 75 13 a l) (hc : l.length ≤ c) (hna : a = none → c = 0) (hl : l.length < 1000000) (hg : Goo l) (hg0 : 0 ≤ g) (hg1 : g ≤ 1099511627776) (r : List Int) (hr : r.length = 13) :
    FnC Try.prog 12 #[.pointer (some ⟨bp, 0, none⟩), .agg (ints r).toArray] O H (fun v H' => ∃ a' c' ai ci L' g' I e, v = .tuple #[.slice ai (List.length I) ci, .int .i64 e] ∧ (But bp H H' ∧ Blk H' bp [.slice a' (L').length c', .int .i64 g'] 29 ∧ RowsT H' 75 13 a' (L') ∧ (L').length ≤ c' ∧ (a' = none → c' = 0)) ∧ (r.getD 0 0 = 1 ∨ r.getD 0 0 = 5 → RowsT H' 3 1 ai I) ∧ DoR l g (r.getD 0 0) L' g' I e) := by
  refine fn_enter (A := [.pointer (some ⟨bp, 0, none⟩), .agg (ints r).toArray]) Try.func12 rfl rfl ?_
  have hX := But.refl bp H
  refine xc_seq ?_
  refine xc_region ?_
  refine xl_heavy rfl rfl rfl (hv_box rfl rfl) ?_
  rintro v0_0 H0_0 ⟨b0_0, rfl, hN0_0⟩
  have gb0_0 := hX.fresh hN0_0
  have nmp_0_0 := mp.apart hN0_0
  have mp := mp.ext hN0_0.ext
  have hR := hR.ext hN0_0.ext
  have hX := hX.transE hN0_0.ext
  have m0_0 := hN0_0.blk
  refine xl_pure rfl rfl rfl (pv_assign (v := .slice _ _ _) rfl rfl) ?_
  refine xl_pure rfl rfl rfl (pv_assign (v := .int _ _) rfl rfl) ?_
  refine xl_nil ?_
  refine xthen_normal ?_
  refine xc_seq ?_
  refine xc_seq ?_
  refine xc_region ?_
  refine xl_pure rfl rfl rfl (pv_fieldAddr rfl rfl) ?_
  refine xl_light rfl rfl rfl (lv_load (v := .int _ _) rfl rfl (by exact ld_get (i := 0) m0_0 (by omega))) ?_
  refine xl_nil ?_
  refine xthen_normal ?_
  refine xc_block ?_
  refine xc_seq ?_
  refine xc_region ?_
  refine xl_dec rfl rfl rfl (pv_eql rfl rfl rfl) (fun h2_0 => ?_) (fun h2_0 => ?_)
  · skip
    refine xl_pure rfl rfl rfl (pv_assign (v := .bool _) rfl rfl) ?_
    refine xl_nil ?_
    refine xthen_normal ?_
    refine xc_cond_t rfl ?_
    refine xc_seq ?_
    obtain ⟨d0, d1, d2, d3, d4, d5, d6, d7, d8, hd⟩ := nine (d := r.drop 4) (by rw [List.length_drop, hr])
    refine xc_region ?_
    refine xl_pure rfl rfl rfl (pv_move (v := .pointer _) rfl rfl) ?_
    refine xl_pure rfl rfl rfl (pv_fieldAddr rfl rfl) ?_
    refine xl_light rfl rfl rfl (lv_load (v := .agg _) rfl rfl (by have e := ld_dr (m := 9) m0_0 hr rfl; rw [hd] at e; exact e)) ?_
    refine xl_heavy rfl rfl rfl (hv_call (g := 6) rfl rfl (c6 mp hR hc hna hl hg hg0 hg1 d0 d1 d2 d3 d4 d5 d6 d7 d8) rfl) ?_
    rintro v3_3 H3_3 ⟨a3_3, c3_3, L3_3, g3_3, n3_3, e3_3, rfl, ⟨hB3_3, hT3_3, hR3_3, hc3_3, hna3_3⟩, hA3_3⟩
    have hR := hR.offT mp hB3_3 (by first | rfl | assumption)
    have m0_0 := m0_0.off hB3_3 (by first | exact nmp_0_0.symm | exact ⟨m0_0.ne mp rfl⟩ | exact ⟨m0_0.ne mp (by assumption)⟩ | exact ⟨Ne.symm (mp.ne m0_0 (by assumption))⟩)
    have hX := hX.trans hB3_3
    have mp := hT3_3
    refine xl_pure rfl rfl rfl (pv_move (v := .tuple _) rfl rfl) ?_
    refine xl_pure rfl rfl rfl (pv_extract (v := .int _ _) rfl rfl rfl) ?_
    refine xl_pure rfl rfl rfl (pv_extract (v := .int _ _) rfl rfl rfl) ?_
    refine xl_pure rfl rfl rfl (pv_assign (v := .int _ _) rfl rfl) ?_
    refine xl_pure rfl rfl rfl (pv_assign (v := .int _ _) rfl rfl) ?_
    refine xl_nil ?_
    refine xthen_normal ?_
    refine xc_seq ?_
    refine xc_region ?_
    refine xl_pure rfl rfl rfl (pv_move (v := .int _ _) rfl rfl) ?_
    refine xl_heavy rfl rfl rfl (hv_buildSlice (cs := [.int _ _]) rfl rfl rfl rfl rfl) ?_
    rintro v4_1 H4_1 ⟨b4_1, rfl, hN4_1⟩
    have gb4_1 := hX.fresh hN4_1
    have nmp_4_1 := mp.apart hN4_1
    have nm0_0_4_1 := m0_0.apart hN4_1
    have mp := mp.ext hN4_1.ext
    have hR := hR.ext hN4_1.ext
    have m0_0 := m0_0.ext hN4_1.ext
    have hR3_3 := hR3_3.ext hN4_1.ext
    have hX := hX.transE hN4_1.ext
    have m4_1 := hN4_1.blk
    refine xl_pure rfl rfl rfl (pv_move (v := .int _ _) rfl rfl) ?_
    refine xl_pure rfl rfl rfl (pv_assign (v := .slice _ _ _) rfl rfl) ?_
    refine xl_pure rfl rfl rfl (pv_assign (v := .int _ _) rfl rfl) ?_
    refine xl_nil ?_
    refine xthen_normal ?_
    refine xc_ret ?_
    refine xblock_ret ?_
    refine xthen_ret ?_
    refine fin_ret (res2 (v := .slice _ _ _) (x := .int _ _) rfl rfl rfl) ?_
    exact ⟨_, _, _, 1, L3_3, g3_3, [[n3_3]], e3_3, rfl, ⟨hX, mp, hR3_3, hc3_3, hna3_3⟩, fun _ => rowsT1 m4_1 rfl rfl, by rw [h2_0]; exact add_do hg rfl hg1 hA3_3⟩
  · skip
    refine xl_pure rfl rfl rfl (pv_assign (v := .bool _) rfl rfl) ?_
    refine xl_nil ?_
    refine xthen_normal ?_
    refine xc_cond_f rfl ?_
    refine xc_seq ?_
    refine xc_region ?_
    refine xl_dec rfl rfl rfl (pv_eql rfl rfl rfl) (fun h5_0 => ?_) (fun h5_0 => ?_)
    · skip
      refine xl_pure rfl rfl rfl (pv_assign (v := .bool _) rfl rfl) ?_
      refine xl_nil ?_
      refine xthen_normal ?_
      refine xc_cond_t rfl ?_
      refine xc_seq ?_
      refine xc_region ?_
      refine xl_pure rfl rfl rfl (pv_move (v := .pointer _) rfl rfl) ?_
      refine xl_pure rfl rfl rfl (pv_fieldAddr rfl rfl) ?_
      refine xl_light rfl rfl rfl (lv_load (v := .int _ _) rfl rfl (by exact ld_get (i := 1) m0_0 (by omega))) ?_
      refine xl_pure rfl rfl rfl (pv_fieldAddr rfl rfl) ?_
      refine xl_light rfl rfl rfl (lv_load (v := .int _ _) rfl rfl (by exact ld_get (i := 2) m0_0 (by omega))) ?_
      refine xl_pure rfl rfl rfl (pv_fieldAddr rfl rfl) ?_
      refine xl_light rfl rfl rfl (lv_load (v := .int _ _) rfl rfl (by exact ld_get (i := 3) m0_0 (by omega))) ?_
      refine xl_heavy rfl rfl rfl (hv_call (g := 9) rfl rfl (c9 mp hR hc hna hl hg (r.getD 1 0) (r.getD 2 0) (r.getD 3 0)) rfl) ?_
      rintro v6_7 H6_7 ⟨a6_7, c6_7, rfl, hB6_7, hT6_7, hR6_7, hc6_7, hna6_7⟩
      have hR := hR.offT mp hB6_7 (by first | rfl | assumption)
      have m0_0 := m0_0.off hB6_7 (by first | exact nmp_0_0.symm | exact ⟨m0_0.ne mp rfl⟩ | exact ⟨m0_0.ne mp (by assumption)⟩ | exact ⟨Ne.symm (mp.ne m0_0 (by assumption))⟩)
      have hX := hX.trans hB6_7
      have mp := hT6_7
      refine xl_pure rfl rfl rfl (pv_assign (v := .slice _ _ _) rfl rfl) ?_
      refine xl_pure rfl rfl rfl (pv_assign (v := .int _ _) rfl rfl) ?_
      refine xl_nil ?_
      refine xthen_normal ?_
      refine xc_ret ?_
      refine xblock_ret ?_
      refine xthen_ret ?_
      refine fin_ret (res2 (v := .slice _ _ _) (x := .int _ _) rfl rfl rfl) ?_
      exact ⟨_, _, none, 0, _, g, [], _, rfl, ⟨hX, mp, hR6_7, hc6_7, hna6_7⟩, fun h => absurd h (by omega), ch_do keeps_use hg hg1 (by omega) (by omega) (by decide)⟩
    · skip
      refine xl_pure rfl rfl rfl (pv_assign (v := .bool _) rfl rfl) ?_
      refine xl_nil ?_
      refine xthen_normal ?_
      refine xc_cond_f rfl ?_
      refine xc_seq ?_
      refine xc_region ?_
      refine xl_dec rfl rfl rfl (pv_eql rfl rfl rfl) (fun h7_0 => ?_) (fun h7_0 => ?_)
      · skip
        refine xl_pure rfl rfl rfl (pv_assign (v := .bool _) rfl rfl) ?_
        refine xl_nil ?_
        refine xthen_normal ?_
        refine xc_cond_t rfl ?_
        refine xc_seq ?_
        refine xc_region ?_
        refine xl_pure rfl rfl rfl (pv_move (v := .pointer _) rfl rfl) ?_
        refine xl_pure rfl rfl rfl (pv_fieldAddr rfl rfl) ?_
        refine xl_light rfl rfl rfl (lv_load (v := .int _ _) rfl rfl (by exact ld_get (i := 1) m0_0 (by omega))) ?_
        refine xl_pure rfl rfl rfl (pv_fieldAddr rfl rfl) ?_
        refine xl_light rfl rfl rfl (lv_load (v := .int _ _) rfl rfl (by exact ld_get (i := 2) m0_0 (by omega))) ?_
        refine xl_pure rfl rfl rfl (pv_fieldAddr rfl rfl) ?_
        refine xl_light rfl rfl rfl (lv_load (v := .int _ _) rfl rfl (by exact ld_get (i := 3) m0_0 (by omega))) ?_
        refine xl_heavy rfl rfl rfl (hv_call (g := 11) rfl rfl (c11 mp hR hc hna hl hg (r.getD 1 0) (r.getD 2 0) (r.getD 3 0)) rfl) ?_
        rintro v8_7 H8_7 ⟨a8_7, c8_7, rfl, hB8_7, hT8_7, hR8_7, hc8_7, hna8_7⟩
        have hR := hR.offT mp hB8_7 (by first | rfl | assumption)
        have m0_0 := m0_0.off hB8_7 (by first | exact nmp_0_0.symm | exact ⟨m0_0.ne mp rfl⟩ | exact ⟨m0_0.ne mp (by assumption)⟩ | exact ⟨Ne.symm (mp.ne m0_0 (by assumption))⟩)
        have hX := hX.trans hB8_7
        have mp := hT8_7
        refine xl_pure rfl rfl rfl (pv_assign (v := .slice _ _ _) rfl rfl) ?_
        refine xl_pure rfl rfl rfl (pv_assign (v := .int _ _) rfl rfl) ?_
        refine xl_nil ?_
        refine xthen_normal ?_
        refine xc_ret ?_
        refine xblock_ret ?_
        refine xthen_ret ?_
        refine fin_ret (res2 (v := .slice _ _ _) (x := .int _ _) rfl rfl rfl) ?_
        exact ⟨_, _, none, 0, _, g, [], _, rfl, ⟨hX, mp, hR8_7, hc8_7, hna8_7⟩, fun h => absurd h (by omega), ch_do keeps_free hg hg1 (by omega) (by omega) (by decide)⟩
      · skip
        refine xl_pure rfl rfl rfl (pv_assign (v := .bool _) rfl rfl) ?_
        refine xl_nil ?_
        refine xthen_normal ?_
        refine xc_cond_f rfl ?_
        refine xc_seq ?_
        refine xc_region ?_
        refine xl_dec rfl rfl rfl (pv_eql rfl rfl rfl) (fun h9_0 => ?_) (fun h9_0 => ?_)
        · skip
          refine xl_pure rfl rfl rfl (pv_assign (v := .bool _) rfl rfl) ?_
          refine xl_nil ?_
          refine xthen_normal ?_
          refine xc_cond_t rfl ?_
          refine xc_seq ?_
          refine xc_region ?_
          refine xl_pure rfl rfl rfl (pv_move (v := .pointer _) rfl rfl) ?_
          refine xl_pure rfl rfl rfl (pv_fieldAddr rfl rfl) ?_
          refine xl_light rfl rfl rfl (lv_load (v := .int _ _) rfl rfl (by exact ld_get (i := 1) m0_0 (by omega))) ?_
          refine xl_pure rfl rfl rfl (pv_fieldAddr rfl rfl) ?_
          refine xl_light rfl rfl rfl (lv_load (v := .int _ _) rfl rfl (by exact ld_get (i := 2) m0_0 (by omega))) ?_
          refine xl_pure rfl rfl rfl (pv_fieldAddr rfl rfl) ?_
          refine xl_light rfl rfl rfl (lv_load (v := .int _ _) rfl rfl (by exact ld_get (i := 3) m0_0 (by omega))) ?_
          refine xl_heavy rfl rfl rfl (hv_call (g := 31) rfl rfl (c31 mp hR hc hna hl hg (r.getD 1 0) (r.getD 2 0) (r.getD 3 0)) rfl) ?_
          rintro v10_7 H10_7 ⟨a10_7, c10_7, rfl, hB10_7, hT10_7, hR10_7, hc10_7, hna10_7⟩
          have hR := hR.offT mp hB10_7 (by first | rfl | assumption)
          have m0_0 := m0_0.off hB10_7 (by first | exact nmp_0_0.symm | exact ⟨m0_0.ne mp rfl⟩ | exact ⟨m0_0.ne mp (by assumption)⟩ | exact ⟨Ne.symm (mp.ne m0_0 (by assumption))⟩)
          have hX := hX.trans hB10_7
          have mp := hT10_7
          refine xl_pure rfl rfl rfl (pv_assign (v := .slice _ _ _) rfl rfl) ?_
          refine xl_pure rfl rfl rfl (pv_assign (v := .int _ _) rfl rfl) ?_
          refine xl_nil ?_
          refine xthen_normal ?_
          refine xc_ret ?_
          refine xblock_ret ?_
          refine xthen_ret ?_
          refine fin_ret (res2 (v := .slice _ _ _) (x := .int _ _) rfl rfl rfl) ?_
          exact ⟨_, _, none, 0, _, g, [], _, rfl, ⟨hX, mp, hR10_7, hc10_7, hna10_7⟩, fun h => absurd h (by omega), ch_do keeps_learn hg hg1 (by omega) (by omega) (by decide)⟩
        · skip
          refine xl_pure rfl rfl rfl (pv_assign (v := .bool _) rfl rfl) ?_
          refine xl_nil ?_
          refine xthen_normal ?_
          refine xc_cond_f rfl ?_
          refine xc_seq ?_
          refine xc_region ?_
          refine xl_dec rfl rfl rfl (pv_eql rfl rfl rfl) (fun h11_0 => ?_) (fun h11_0 => ?_)
          · skip
            refine xl_pure rfl rfl rfl (pv_assign (v := .bool _) rfl rfl) ?_
            refine xl_nil ?_
            refine xthen_normal ?_
            refine xc_cond_t rfl ?_
            refine xc_seq ?_
            refine xc_region ?_
            refine xl_pure rfl rfl rfl (pv_move (v := .pointer _) rfl rfl) ?_
            refine xl_pure rfl rfl rfl (pv_fieldAddr rfl rfl) ?_
            refine xl_light rfl rfl rfl (lv_load (v := .int _ _) rfl rfl (by exact ld_get (i := 1) m0_0 (by omega))) ?_
            refine xl_pure rfl rfl rfl (pv_fieldAddr rfl rfl) ?_
            refine xl_light rfl rfl rfl (lv_load (v := .int _ _) rfl rfl (by exact ld_get (i := 2) m0_0 (by omega))) ?_
            refine xl_pure rfl rfl rfl (pv_fieldAddr rfl rfl) ?_
            refine xl_light rfl rfl rfl (lv_load (v := .int _ _) rfl rfl (by exact ld_get (i := 3) m0_0 (by omega))) ?_
            refine xl_heavy rfl rfl rfl (hv_call (g := 22) rfl rfl (c22 mp hR hc hna hl hg hg0 hg1 (r.getD 1 0) (r.getD 2 0) (r.getD 3 0)) rfl) ?_
            rintro v12_7 H12_7 ⟨a12_7, c12_7, ai12_7, ci12_7, L12_7, g12_7, I12_7, e12_7, rfl, ⟨hB12_7, hT12_7, hR12_7, hc12_7, hna12_7⟩, hI12_7, hC12_7, -⟩
            have hR := hR.offT mp hB12_7 (by first | rfl | assumption)
            have m0_0 := m0_0.off hB12_7 (by first | exact nmp_0_0.symm | exact ⟨m0_0.ne mp rfl⟩ | exact ⟨m0_0.ne mp (by assumption)⟩ | exact ⟨Ne.symm (mp.ne m0_0 (by assumption))⟩)
            have hX := hX.trans hB12_7
            have mp := hT12_7
            refine xl_pure rfl rfl rfl (pv_extract (v := .slice _ _ _) rfl rfl rfl) ?_
            refine xl_pure rfl rfl rfl (pv_extract (v := .int _ _) rfl rfl rfl) ?_
            refine xl_pure rfl rfl rfl (pv_assign (v := .slice _ _ _) rfl rfl) ?_
            refine xl_pure rfl rfl rfl (pv_assign (v := .int _ _) rfl rfl) ?_
            refine xl_nil ?_
            refine xthen_normal ?_
            refine xc_ret ?_
            refine xblock_ret ?_
            refine xthen_ret ?_
            refine fin_ret (res2 (v := .slice _ _ _) (x := .int _ _) rfl rfl rfl) ?_
            exact ⟨_, _, _, _, _, _, I12_7, e12_7, rfl, ⟨hX, mp, hR12_7, hc12_7, hna12_7⟩, fun _ => hI12_7, cop_do hg hg1 hC12_7⟩
          · skip
            refine xl_pure rfl rfl rfl (pv_assign (v := .bool _) rfl rfl) ?_
            refine xl_nil ?_
            refine xthen_normal ?_
            refine xc_cond_f rfl ?_
            refine xc_seq ?_
            refine xc_region ?_
            refine xl_dec rfl rfl rfl (pv_eql rfl rfl rfl) (fun h13_0 => ?_) (fun h13_0 => ?_)
            · skip
              refine xl_pure rfl rfl rfl (pv_assign (v := .bool _) rfl rfl) ?_
              refine xl_nil ?_
              refine xthen_normal ?_
              refine xc_cond_t rfl ?_
              refine xc_seq ?_
              refine xc_region ?_
              refine xl_pure rfl rfl rfl (pv_move (v := .pointer _) rfl rfl) ?_
              refine xl_pure rfl rfl rfl (pv_fieldAddr rfl rfl) ?_
              refine xl_light rfl rfl rfl (lv_load (v := .int _ _) rfl rfl (by exact ld_get (i := 1) m0_0 (by omega))) ?_
              refine xl_pure rfl rfl rfl (pv_fieldAddr rfl rfl) ?_
              refine xl_light rfl rfl rfl (lv_load (v := .int _ _) rfl rfl (by exact ld_get (i := 2) m0_0 (by omega))) ?_
              refine xl_pure rfl rfl rfl (pv_fieldAddr rfl rfl) ?_
              refine xl_light rfl rfl rfl (lv_load (v := .int _ _) rfl rfl (by exact ld_get (i := 3) m0_0 (by omega))) ?_
              refine xl_heavy rfl rfl rfl (hv_call (g := 10) rfl rfl (c10 mp hR hc hna hl hg (r.getD 1 0) (r.getD 2 0) (r.getD 3 0)) rfl) ?_
              rintro v14_7 H14_7 ⟨a14_7, c14_7, rfl, hB14_7, hT14_7, hR14_7, hc14_7, hna14_7⟩
              have hR := hR.offT mp hB14_7 (by first | rfl | assumption)
              have m0_0 := m0_0.off hB14_7 (by first | exact nmp_0_0.symm | exact ⟨m0_0.ne mp rfl⟩ | exact ⟨m0_0.ne mp (by assumption)⟩ | exact ⟨Ne.symm (mp.ne m0_0 (by assumption))⟩)
              have hX := hX.trans hB14_7
              have mp := hT14_7
              refine xl_pure rfl rfl rfl (pv_assign (v := .slice _ _ _) rfl rfl) ?_
              refine xl_pure rfl rfl rfl (pv_assign (v := .int _ _) rfl rfl) ?_
              refine xl_nil ?_
              refine xthen_normal ?_
              refine xc_ret ?_
              refine xblock_ret ?_
              refine xthen_ret ?_
              refine fin_ret (res2 (v := .slice _ _ _) (x := .int _ _) rfl rfl rfl) ?_
              exact ⟨_, _, none, 0, _, g, [], _, rfl, ⟨hX, mp, hR14_7, hc14_7, hna14_7⟩, fun h => absurd h (by omega), ch_do keeps_give hg hg1 (by omega) (by omega) (by decide)⟩
            · skip
              refine xl_pure rfl rfl rfl (pv_assign (v := .bool _) rfl rfl) ?_
              refine xl_nil ?_
              refine xthen_normal ?_
              refine xc_cond_f rfl ?_
              refine xc_skip ?_
              refine xblock_normal ?_
              refine xthen_normal ?_
              refine xc_seq ?_
              refine xc_region ?_
              refine xl_pure rfl rfl rfl (pv_move (v := .pointer _) rfl rfl) ?_
              refine xl_pure rfl rfl rfl (pv_fieldAddr rfl rfl) ?_
              refine xl_light rfl rfl rfl (lv_load (v := .int _ _) rfl rfl (by exact ld_get (i := 1) m0_0 (by omega))) ?_
              refine xl_heavy rfl rfl rfl (hv_call (g := 8) rfl rfl (c8 mp hR hc hna hl hg (r.getD 1 0)) rfl) ?_
              rintro v15_3 H15_3 ⟨hv15_3, hE15_3⟩
              have mp := mp.ext hE15_3
              have hR := hR.ext hE15_3
              have m0_0 := m0_0.ext hE15_3
              have hX := hX.transE hE15_3
              rcases hv15_3 with ⟨hh, hv15_3⟩ | ⟨hh, rfl⟩
              · skip
                obtain ⟨d0, d1, d2, d3, d4, d5, d6, d7, d8, hd, hi⟩ := hg.at hh
                rw [hd] at hv15_3
                subst hv15_3
                refine xl_pure rfl rfl rfl (pv_move (v := .tuple _) rfl rfl) ?_
                refine xl_pure rfl rfl rfl (pv_extract (v := .agg _) rfl rfl rfl) ?_
                refine xl_pure rfl rfl rfl (pv_extract (v := .int _ _) rfl rfl rfl) ?_
                refine xl_heavy rfl rfl rfl (hv_alloc rfl rfl) ?_
                rintro v15_7 H15_7 ⟨b15_7, rfl, hN15_7⟩
                have gb15_7 := hX.fresh hN15_7
                have nmp_15_7 := mp.apart hN15_7
                have nm0_0_15_7 := m0_0.apart hN15_7
                have mp := mp.ext hN15_7.ext
                have hR := hR.ext hN15_7.ext
                have m0_0 := m0_0.ext hN15_7.ext
                have hX := hX.transE hN15_7.ext
                have m15_7 := hN15_7.blk
                refine xl_store rfl rfl (hv_storeA (vs := [.int _ _, .int _ _, .int _ _, .int _ _, .int _ _, .int _ _, .int _ _, .int _ _, .int _ _]) rfl rfl rfl (m15_7) rfl (by rfl) rfl) ?_
                rintro v15_8 H15_8 ⟨hU15_8, hZ15_8⟩
                have mp := mp.off hU15_8.but (by first | exact nmp_15_7 | exact ⟨mp.ne m15_7 rfl⟩ | exact ⟨mp.ne m15_7 (by assumption)⟩ | exact ⟨Ne.symm (m15_7.ne mp (by assumption))⟩)
                have hR := hR.offT m15_7 hU15_8.but (by first | rfl | assumption)
                have m0_0 := m0_0.off hU15_8.but (by first | exact nm0_0_15_7 | exact ⟨m0_0.ne m15_7 rfl⟩ | exact ⟨m0_0.ne m15_7 (by assumption)⟩ | exact ⟨Ne.symm (m15_7.ne m0_0 (by assumption))⟩)
                have hX := hX.upd hU15_8.but gb15_7
                have m15_7 := hU15_8.blk
                refine xl_pure rfl rfl rfl (pv_assign (v := .int _ _) rfl rfl) ?_
                refine xl_nil ?_
                refine xthen_normal ?_
                refine xc_seq ?_
                refine xc_region ?_
                refine xl_pure rfl rfl rfl (pv_fieldAddr rfl rfl) ?_
                refine xl_light rfl rfl rfl (lv_load (v := .int _ _) rfl rfl (ld_blk m15_7 rfl)) ?_
                refine xl_pure rfl rfl rfl (pv_fieldAddr rfl rfl) ?_
                refine xl_light rfl rfl rfl (lv_load (v := .int _ _) rfl rfl (ld_blk m15_7 rfl)) ?_
                refine xl_pure rfl rfl rfl (pv_fieldAddr rfl rfl) ?_
                refine xl_light rfl rfl rfl (lv_load (v := .int _ _) rfl rfl (ld_blk m15_7 rfl)) ?_
                refine xl_heavy rfl rfl rfl (hv_buildSlice (cs := [.int _ _, .int _ _, .int _ _]) rfl rfl rfl rfl rfl) ?_
                rintro v16_6 H16_6 ⟨b16_6, rfl, hN16_6⟩
                have gb16_6 := hX.fresh hN16_6
                have nmp_16_6 := mp.apart hN16_6
                have nm0_0_16_6 := m0_0.apart hN16_6
                have nm15_7_16_6 := m15_7.apart hN16_6
                have mp := mp.ext hN16_6.ext
                have hR := hR.ext hN16_6.ext
                have m0_0 := m0_0.ext hN16_6.ext
                have m15_7 := m15_7.ext hN16_6.ext
                have hX := hX.transE hN16_6.ext
                have m16_6 := hN16_6.blk
                refine xl_pure rfl rfl rfl (pv_move (v := .int _ _) rfl rfl) ?_
                refine xl_pure rfl rfl rfl (pv_assign (v := .slice _ _ _) rfl rfl) ?_
                refine xl_pure rfl rfl rfl (pv_assign (v := .int _ _) rfl rfl) ?_
                refine xl_nil ?_
                refine xthen_normal ?_
                refine xc_ret ?_
                refine fin_ret (res2 (v := .slice _ _ _) (x := .int _ _) rfl rfl rfl) ?_
                exact ⟨a, c, _, 3, l, g, [[0], [0], [0]], _, rfl, ⟨hX, mp, hR, hc, hna⟩, fun h => absurd h (by omega), get_do hg hg1 (by omega) (by omega) (by decide)⟩
              · skip
                refine xl_pure rfl rfl rfl (pv_move (v := .tuple _) rfl rfl) ?_
                refine xl_pure rfl rfl rfl (pv_extract (v := .agg _) rfl rfl rfl) ?_
                refine xl_pure rfl rfl rfl (pv_extract (v := .int _ _) rfl rfl rfl) ?_
                refine xl_heavy rfl rfl rfl (hv_alloc rfl rfl) ?_
                rintro v15_7 H15_7 ⟨b15_7, rfl, hN15_7⟩
                have gb15_7 := hX.fresh hN15_7
                have nmp_15_7 := mp.apart hN15_7
                have nm0_0_15_7 := m0_0.apart hN15_7
                have mp := mp.ext hN15_7.ext
                have hR := hR.ext hN15_7.ext
                have m0_0 := m0_0.ext hN15_7.ext
                have hX := hX.transE hN15_7.ext
                have m15_7 := hN15_7.blk
                refine xl_store rfl rfl (hv_storeA (vs := [.int _ _, .int _ _, .int _ _, .int _ _, .int _ _, .int _ _, .int _ _, .int _ _, .int _ _]) rfl rfl rfl (m15_7) rfl (by rfl) rfl) ?_
                rintro v15_8 H15_8 ⟨hU15_8, hZ15_8⟩
                have mp := mp.off hU15_8.but (by first | exact nmp_15_7 | exact ⟨mp.ne m15_7 rfl⟩ | exact ⟨mp.ne m15_7 (by assumption)⟩ | exact ⟨Ne.symm (m15_7.ne mp (by assumption))⟩)
                have hR := hR.offT m15_7 hU15_8.but (by first | rfl | assumption)
                have m0_0 := m0_0.off hU15_8.but (by first | exact nm0_0_15_7 | exact ⟨m0_0.ne m15_7 rfl⟩ | exact ⟨m0_0.ne m15_7 (by assumption)⟩ | exact ⟨Ne.symm (m15_7.ne m0_0 (by assumption))⟩)
                have hX := hX.upd hU15_8.but gb15_7
                have m15_7 := hU15_8.blk
                refine xl_pure rfl rfl rfl (pv_assign (v := .int _ _) rfl rfl) ?_
                refine xl_nil ?_
                refine xthen_normal ?_
                refine xc_seq ?_
                refine xc_region ?_
                refine xl_pure rfl rfl rfl (pv_fieldAddr rfl rfl) ?_
                refine xl_light rfl rfl rfl (lv_load (v := .int _ _) rfl rfl (ld_blk m15_7 rfl)) ?_
                refine xl_pure rfl rfl rfl (pv_fieldAddr rfl rfl) ?_
                refine xl_light rfl rfl rfl (lv_load (v := .int _ _) rfl rfl (ld_blk m15_7 rfl)) ?_
                refine xl_pure rfl rfl rfl (pv_fieldAddr rfl rfl) ?_
                refine xl_light rfl rfl rfl (lv_load (v := .int _ _) rfl rfl (ld_blk m15_7 rfl)) ?_
                refine xl_heavy rfl rfl rfl (hv_buildSlice (cs := [.int _ _, .int _ _, .int _ _]) rfl rfl rfl rfl rfl) ?_
                rintro v16_6 H16_6 ⟨b16_6, rfl, hN16_6⟩
                have gb16_6 := hX.fresh hN16_6
                have nmp_16_6 := mp.apart hN16_6
                have nm0_0_16_6 := m0_0.apart hN16_6
                have nm15_7_16_6 := m15_7.apart hN16_6
                have mp := mp.ext hN16_6.ext
                have hR := hR.ext hN16_6.ext
                have m0_0 := m0_0.ext hN16_6.ext
                have m15_7 := m15_7.ext hN16_6.ext
                have hX := hX.transE hN16_6.ext
                have m16_6 := hN16_6.blk
                refine xl_pure rfl rfl rfl (pv_move (v := .int _ _) rfl rfl) ?_
                refine xl_pure rfl rfl rfl (pv_assign (v := .slice _ _ _) rfl rfl) ?_
                refine xl_pure rfl rfl rfl (pv_assign (v := .int _ _) rfl rfl) ?_
                refine xl_nil ?_
                refine xthen_normal ?_
                refine xc_ret ?_
                refine fin_ret (res2 (v := .slice _ _ _) (x := .int _ _) rfl rfl rfl) ?_
                exact ⟨a, c, _, 3, l, g, [[0], [0], [0]], _, rfl, ⟨hX, mp, hR, hc, hna⟩, fun h => absurd h (by omega), get_do hg hg1 (by omega) (by omega) (by decide)⟩
end Go.XG
