/-
  Walks of the seat's functions over the logic XG: each function, what it computes. Printed by a program out of wip/walks.py.
-/
import Derived.Test.YtmjnbdbbbgabnaaI
import Derived.Test.YtmjnbdbbbgabnaaTm
import Derived.Test.YtmjnbdbbbgabnaaTa
import Derived.Test.YtmjnbdbbbgabnaaTb
import Derived.Test.YtmjnbdbbbgabnaaTd
import Derived.Test.YtmjnbdbbbgabnaaTc
import Derived.Test.YtmjnbdbbbgabnaaP
import Derived.Test.YtmjnbdbbbgabnaaWa
import Derived.Test.YtmjnbdbbbgabnaaWb
import Derived.Test.YtmjnbdbbbgabnaaWc
import Derived.Test.YtmjnbdbbbgabnaaQ
import Derived.Test.YtmjnbdbbbgabnaaTo
import Derived.Test.YtmjnbdbbbgabnaaWd
namespace Go.XG
open Go.Proofs
set_option maxRecDepth 4000
set_option maxHeartbeats 4000000
theorem c10 {O : Outer} {H : Heap} {a : Option Addr} {c : Nat} {x : List (List Int)} (hx : RowsT H 60 2 a x) (hg : Goo x) (hl : x.length < 1000000) (hc : x.length ≤ c) (r : List Int) (hr : r.length = 4) :
    FnC Try.prog 10 #[.slice a x.length c, .agg (ints r).toArray] O H (fun v H' => ∃ a' c', v = .tuple #[.slice a' (actX x r).length c', .int .i64 (actN x r), .int .i64 (actE x r)] ∧ RowsT H' 60 2 a' (actX x r) ∧ (actX x r).length ≤ c' ∧ Ext H H') := by
  refine fn_enter (A := [.slice a x.length c, .agg (ints r).toArray]) Try.func10 rfl rfl ?_
  have hX := Ext.refl H
  refine xc_seq ?_
  refine xc_region ?_
  refine xl_heavy rfl rfl rfl (hv_box rfl rfl) ?_
  rintro v0_0 H0_0 ⟨b0_0, rfl, hN0_0⟩
  have gb0_0 := hX.fresh hN0_0
  have hX := hX.trans hN0_0.ext
  have m0_0 := hN0_0.blk
  refine xl_pure rfl rfl rfl (pv_assign (v := .slice _ _ _) rfl rfl) ?_
  refine xl_pure rfl rfl rfl (pv_assign (v := .int _ _) rfl rfl) ?_
  refine xl_pure rfl rfl rfl (pv_assign (v := .int _ _) rfl rfl) ?_
  refine xl_nil ?_
  refine xthen_normal ?_
  refine xc_seq ?_
  refine xc_region ?_
  refine xl_pure rfl rfl rfl (pv_move (v := .slice _ _ _) rfl rfl) ?_
  refine xl_pure rfl rfl rfl (pv_assign (v := .slice _ _ _) rfl rfl) ?_
  refine xl_pure rfl rfl rfl (pv_assign (v := .int _ _) rfl rfl) ?_
  refine xl_nil ?_
  refine xthen_normal ?_
  refine xc_seq ?_
  refine xc_seq ?_
  refine xc_region ?_
  refine xl_pure rfl rfl rfl (pv_fieldAddr rfl rfl) ?_
  refine xl_light rfl rfl rfl (lv_load (v := .int _ _) rfl rfl (by exact ld_get (i := 0) m0_0 (by omega))) ?_
  refine xl_nil ?_
  refine xthen_normal ?_
  refine xc_block ?_
  refine xc_seq ?_
  refine xc_region ?_
  refine xl_dec rfl rfl rfl (pv_eql rfl rfl rfl) (fun h5_0 => ?_) (fun h5_0 => ?_)
  · skip
    refine xl_pure rfl rfl rfl (pv_assign (v := .bool _) rfl rfl) ?_
    refine xl_nil ?_
    refine xthen_normal ?_
    refine xc_cond_t rfl ?_
    refine xc_region ?_
    refine xl_pure rfl rfl rfl (pv_move (v := .slice _ _ _) rfl rfl) ?_
    refine xl_pure rfl rfl rfl (pv_fieldAddr rfl rfl) ?_
    refine xl_light rfl rfl rfl (lv_load (v := .int _ _) rfl rfl (by exact ld_get (i := 1) m0_0 (by omega))) ?_
    refine xl_heavy rfl rfl rfl (hv_call (g := 25) rfl rfl (c25 (hx.ext hX) hg hl hc (r.getD 1 0)) rfl) ?_
    rintro v6_3 H6_3 ⟨a6_3, c6_3, rfl, hQ6_3, hc6_3, hE6_3⟩
    have m0_0 := m0_0.ext hE6_3
    have hX := hX.trans hE6_3
    refine xl_pure rfl rfl rfl (pv_move (v := .tuple _) rfl rfl) ?_
    refine xl_pure rfl rfl rfl (pv_extract (v := .slice _ _ _) rfl rfl rfl) ?_
    refine xl_pure rfl rfl rfl (pv_extract (v := .int _ _) rfl rfl rfl) ?_
    refine xl_pure rfl rfl rfl (pv_assign (v := .slice _ _ _) rfl rfl) ?_
    refine xl_pure rfl rfl rfl (pv_assign (v := .int _ _) rfl rfl) ?_
    refine xl_nil ?_
    refine xblock_normal ?_
    refine xthen_normal ?_
    refine xc_seq ?_
    refine xc_region ?_
    refine xl_pure rfl rfl rfl (pv_move (v := .slice _ _ _) rfl rfl) ?_
    refine xl_pure rfl rfl rfl (pv_move (v := .int _ _) rfl rfl) ?_
    refine xl_pure rfl rfl rfl (pv_assign (v := .slice _ _ _) rfl rfl) ?_
    refine xl_pure rfl rfl rfl (pv_assign (v := .int _ _) rfl rfl) ?_
    refine xl_pure rfl rfl rfl (pv_assign (v := .int _ _) rfl rfl) ?_
    refine xl_nil ?_
    refine xthen_normal ?_
    refine xc_ret ?_
    refine fin_ret (res3 (v := .slice _ _ _) (x := .int _ _) (y := .int _ _) rfl rfl rfl rfl) ?_
    first
      | (have h5 := act1 (x := x) h5_0; obtain ⟨e1, e2, e3⟩ := h5; exact ⟨a6_3, c6_3, by rw [e1, e2, e3], by rw [e2]; exact hQ6_3, by rw [e2]; exact hc6_3, hX⟩)
      | (have h5 := act2 (x := x) h5_0 h7_0; obtain ⟨e1, e2, e3⟩ := h5; exact ⟨a8_5, c8_5, by rw [e1, e2, e3], by rw [e2]; exact hQ8_5, by rw [e2]; exact hc8_5, hX⟩)
      | (have h5 := act3 (x := x) h5_0 h7_0 h9_0; obtain ⟨e1, e2, e3⟩ := h5; exact ⟨a10_5, c10_5, by rw [e1, e2, e3], by rw [e2]; exact hQ10_5, by rw [e2]; exact hc10_5, hX⟩)
      | (have h5 := act4 (x := x) h5_0 h7_0 h9_0 h11_0; obtain ⟨e1, e2, e3⟩ := h5; exact ⟨a12_7, c12_7, by rw [e1, e2, e3], by rw [e2]; exact hQ12_7, by rw [e2]; exact hc12_7, hX⟩)
  · skip
    refine xl_pure rfl rfl rfl (pv_assign (v := .bool _) rfl rfl) ?_
    refine xl_nil ?_
    refine xthen_normal ?_
    refine xc_cond_f rfl ?_
    refine xc_seq ?_
    refine xc_region ?_
    refine xl_dec rfl rfl rfl (pv_eql rfl rfl rfl) (fun h7_0 => ?_) (fun h7_0 => ?_)
    · skip
      refine xl_pure rfl rfl rfl (pv_assign (v := .bool _) rfl rfl) ?_
      refine xl_nil ?_
      refine xthen_normal ?_
      refine xc_cond_t rfl ?_
      refine xc_region ?_
      refine xl_pure rfl rfl rfl (pv_move (v := .slice _ _ _) rfl rfl) ?_
      refine xl_pure rfl rfl rfl (pv_fieldAddr rfl rfl) ?_
      refine xl_light rfl rfl rfl (lv_load (v := .int _ _) rfl rfl (by exact ld_get (i := 1) m0_0 (by omega))) ?_
      refine xl_pure rfl rfl rfl (pv_fieldAddr rfl rfl) ?_
      refine xl_light rfl rfl rfl (lv_load (v := .int _ _) rfl rfl (by exact ld_get (i := 3) m0_0 (by omega))) ?_
      refine xl_heavy rfl rfl rfl (hv_call (g := 26) rfl rfl (c26 (hx.ext hX) hg hl hc (r.getD 1 0) (r.getD 3 0)) rfl) ?_
      rintro v8_5 H8_5 ⟨a8_5, c8_5, rfl, hQ8_5, hc8_5, hE8_5⟩
      have m0_0 := m0_0.ext hE8_5
      have hX := hX.trans hE8_5
      refine xl_pure rfl rfl rfl (pv_move (v := .tuple _) rfl rfl) ?_
      refine xl_pure rfl rfl rfl (pv_extract (v := .slice _ _ _) rfl rfl rfl) ?_
      refine xl_pure rfl rfl rfl (pv_extract (v := .int _ _) rfl rfl rfl) ?_
      refine xl_pure rfl rfl rfl (pv_assign (v := .slice _ _ _) rfl rfl) ?_
      refine xl_pure rfl rfl rfl (pv_assign (v := .int _ _) rfl rfl) ?_
      refine xl_nil ?_
      refine xblock_normal ?_
      refine xthen_normal ?_
      refine xc_seq ?_
      refine xc_region ?_
      refine xl_pure rfl rfl rfl (pv_move (v := .slice _ _ _) rfl rfl) ?_
      refine xl_pure rfl rfl rfl (pv_move (v := .int _ _) rfl rfl) ?_
      refine xl_pure rfl rfl rfl (pv_assign (v := .slice _ _ _) rfl rfl) ?_
      refine xl_pure rfl rfl rfl (pv_assign (v := .int _ _) rfl rfl) ?_
      refine xl_pure rfl rfl rfl (pv_assign (v := .int _ _) rfl rfl) ?_
      refine xl_nil ?_
      refine xthen_normal ?_
      refine xc_ret ?_
      refine fin_ret (res3 (v := .slice _ _ _) (x := .int _ _) (y := .int _ _) rfl rfl rfl rfl) ?_
      first
        | (have h5 := act1 (x := x) h5_0; obtain ⟨e1, e2, e3⟩ := h5; exact ⟨a6_3, c6_3, by rw [e1, e2, e3], by rw [e2]; exact hQ6_3, by rw [e2]; exact hc6_3, hX⟩)
        | (have h5 := act2 (x := x) h5_0 h7_0; obtain ⟨e1, e2, e3⟩ := h5; exact ⟨a8_5, c8_5, by rw [e1, e2, e3], by rw [e2]; exact hQ8_5, by rw [e2]; exact hc8_5, hX⟩)
        | (have h5 := act3 (x := x) h5_0 h7_0 h9_0; obtain ⟨e1, e2, e3⟩ := h5; exact ⟨a10_5, c10_5, by rw [e1, e2, e3], by rw [e2]; exact hQ10_5, by rw [e2]; exact hc10_5, hX⟩)
        | (have h5 := act4 (x := x) h5_0 h7_0 h9_0 h11_0; obtain ⟨e1, e2, e3⟩ := h5; exact ⟨a12_7, c12_7, by rw [e1, e2, e3], by rw [e2]; exact hQ12_7, by rw [e2]; exact hc12_7, hX⟩)
    · skip
      refine xl_pure rfl rfl rfl (pv_assign (v := .bool _) rfl rfl) ?_
      refine xl_nil ?_
      refine xthen_normal ?_
      refine xc_cond_f rfl ?_
      refine xc_seq ?_
      refine xc_region ?_
      refine xl_dec rfl rfl rfl (pv_eql rfl rfl rfl) (fun h9_0 => ?_) (fun h9_0 => ?_)
      · skip
        refine xl_pure rfl rfl rfl (pv_assign (v := .bool _) rfl rfl) ?_
        refine xl_nil ?_
        refine xthen_normal ?_
        refine xc_cond_t rfl ?_
        refine xc_region ?_
        refine xl_pure rfl rfl rfl (pv_move (v := .slice _ _ _) rfl rfl) ?_
        refine xl_pure rfl rfl rfl (pv_fieldAddr rfl rfl) ?_
        refine xl_light rfl rfl rfl (lv_load (v := .int _ _) rfl rfl (by exact ld_get (i := 1) m0_0 (by omega))) ?_
        refine xl_pure rfl rfl rfl (pv_fieldAddr rfl rfl) ?_
        refine xl_light rfl rfl rfl (lv_load (v := .int _ _) rfl rfl (by exact ld_get (i := 3) m0_0 (by omega))) ?_
        refine xl_heavy rfl rfl rfl (hv_call (g := 27) rfl rfl (c27 (hx.ext hX) hg hl hc (r.getD 1 0) (r.getD 3 0)) rfl) ?_
        rintro v10_5 H10_5 ⟨a10_5, c10_5, rfl, hQ10_5, hc10_5, hE10_5⟩
        have m0_0 := m0_0.ext hE10_5
        have hX := hX.trans hE10_5
        refine xl_pure rfl rfl rfl (pv_move (v := .tuple _) rfl rfl) ?_
        refine xl_pure rfl rfl rfl (pv_extract (v := .slice _ _ _) rfl rfl rfl) ?_
        refine xl_pure rfl rfl rfl (pv_extract (v := .int _ _) rfl rfl rfl) ?_
        refine xl_pure rfl rfl rfl (pv_assign (v := .slice _ _ _) rfl rfl) ?_
        refine xl_pure rfl rfl rfl (pv_assign (v := .int _ _) rfl rfl) ?_
        refine xl_nil ?_
        refine xblock_normal ?_
        refine xthen_normal ?_
        refine xc_seq ?_
        refine xc_region ?_
        refine xl_pure rfl rfl rfl (pv_move (v := .slice _ _ _) rfl rfl) ?_
        refine xl_pure rfl rfl rfl (pv_move (v := .int _ _) rfl rfl) ?_
        refine xl_pure rfl rfl rfl (pv_assign (v := .slice _ _ _) rfl rfl) ?_
        refine xl_pure rfl rfl rfl (pv_assign (v := .int _ _) rfl rfl) ?_
        refine xl_pure rfl rfl rfl (pv_assign (v := .int _ _) rfl rfl) ?_
        refine xl_nil ?_
        refine xthen_normal ?_
        refine xc_ret ?_
        refine fin_ret (res3 (v := .slice _ _ _) (x := .int _ _) (y := .int _ _) rfl rfl rfl rfl) ?_
        first
          | (have h5 := act1 (x := x) h5_0; obtain ⟨e1, e2, e3⟩ := h5; exact ⟨a6_3, c6_3, by rw [e1, e2, e3], by rw [e2]; exact hQ6_3, by rw [e2]; exact hc6_3, hX⟩)
          | (have h5 := act2 (x := x) h5_0 h7_0; obtain ⟨e1, e2, e3⟩ := h5; exact ⟨a8_5, c8_5, by rw [e1, e2, e3], by rw [e2]; exact hQ8_5, by rw [e2]; exact hc8_5, hX⟩)
          | (have h5 := act3 (x := x) h5_0 h7_0 h9_0; obtain ⟨e1, e2, e3⟩ := h5; exact ⟨a10_5, c10_5, by rw [e1, e2, e3], by rw [e2]; exact hQ10_5, by rw [e2]; exact hc10_5, hX⟩)
          | (have h5 := act4 (x := x) h5_0 h7_0 h9_0 h11_0; obtain ⟨e1, e2, e3⟩ := h5; exact ⟨a12_7, c12_7, by rw [e1, e2, e3], by rw [e2]; exact hQ12_7, by rw [e2]; exact hc12_7, hX⟩)
      · skip
        refine xl_pure rfl rfl rfl (pv_assign (v := .bool _) rfl rfl) ?_
        refine xl_nil ?_
        refine xthen_normal ?_
        refine xc_cond_f rfl ?_
        refine xc_seq ?_
        refine xc_region ?_
        refine xl_dec rfl rfl rfl (pv_eql rfl rfl rfl) (fun h11_0 => ?_) (fun h11_0 => ?_)
        · skip
          refine xl_pure rfl rfl rfl (pv_assign (v := .bool _) rfl rfl) ?_
          refine xl_nil ?_
          refine xthen_normal ?_
          refine xc_cond_t rfl ?_
          refine xc_region ?_
          refine xl_pure rfl rfl rfl (pv_move (v := .slice _ _ _) rfl rfl) ?_
          refine xl_pure rfl rfl rfl (pv_fieldAddr rfl rfl) ?_
          refine xl_light rfl rfl rfl (lv_load (v := .int _ _) rfl rfl (by exact ld_get (i := 1) m0_0 (by omega))) ?_
          refine xl_pure rfl rfl rfl (pv_fieldAddr rfl rfl) ?_
          refine xl_light rfl rfl rfl (lv_load (v := .int _ _) rfl rfl (by exact ld_get (i := 2) m0_0 (by omega))) ?_
          refine xl_pure rfl rfl rfl (pv_fieldAddr rfl rfl) ?_
          refine xl_light rfl rfl rfl (lv_load (v := .int _ _) rfl rfl (by exact ld_get (i := 3) m0_0 (by omega))) ?_
          refine xl_heavy rfl rfl rfl (hv_call (g := 28) rfl rfl (c28 (hx.ext hX) hg hl hc (r.getD 1 0) (r.getD 2 0) (r.getD 3 0)) rfl) ?_
          rintro v12_7 H12_7 ⟨a12_7, c12_7, rfl, hQ12_7, hc12_7, hE12_7⟩
          have m0_0 := m0_0.ext hE12_7
          have hX := hX.trans hE12_7
          refine xl_pure rfl rfl rfl (pv_move (v := .tuple _) rfl rfl) ?_
          refine xl_pure rfl rfl rfl (pv_extract (v := .slice _ _ _) rfl rfl rfl) ?_
          refine xl_pure rfl rfl rfl (pv_extract (v := .int _ _) rfl rfl rfl) ?_
          refine xl_pure rfl rfl rfl (pv_assign (v := .slice _ _ _) rfl rfl) ?_
          refine xl_pure rfl rfl rfl (pv_assign (v := .int _ _) rfl rfl) ?_
          refine xl_nil ?_
          refine xblock_normal ?_
          refine xthen_normal ?_
          refine xc_seq ?_
          refine xc_region ?_
          refine xl_pure rfl rfl rfl (pv_move (v := .slice _ _ _) rfl rfl) ?_
          refine xl_pure rfl rfl rfl (pv_move (v := .int _ _) rfl rfl) ?_
          refine xl_pure rfl rfl rfl (pv_assign (v := .slice _ _ _) rfl rfl) ?_
          refine xl_pure rfl rfl rfl (pv_assign (v := .int _ _) rfl rfl) ?_
          refine xl_pure rfl rfl rfl (pv_assign (v := .int _ _) rfl rfl) ?_
          refine xl_nil ?_
          refine xthen_normal ?_
          refine xc_ret ?_
          refine fin_ret (res3 (v := .slice _ _ _) (x := .int _ _) (y := .int _ _) rfl rfl rfl rfl) ?_
          first
            | (have h5 := act1 (x := x) h5_0; obtain ⟨e1, e2, e3⟩ := h5; exact ⟨a6_3, c6_3, by rw [e1, e2, e3], by rw [e2]; exact hQ6_3, by rw [e2]; exact hc6_3, hX⟩)
            | (have h5 := act2 (x := x) h5_0 h7_0; obtain ⟨e1, e2, e3⟩ := h5; exact ⟨a8_5, c8_5, by rw [e1, e2, e3], by rw [e2]; exact hQ8_5, by rw [e2]; exact hc8_5, hX⟩)
            | (have h5 := act3 (x := x) h5_0 h7_0 h9_0; obtain ⟨e1, e2, e3⟩ := h5; exact ⟨a10_5, c10_5, by rw [e1, e2, e3], by rw [e2]; exact hQ10_5, by rw [e2]; exact hc10_5, hX⟩)
            | (have h5 := act4 (x := x) h5_0 h7_0 h9_0 h11_0; obtain ⟨e1, e2, e3⟩ := h5; exact ⟨a12_7, c12_7, by rw [e1, e2, e3], by rw [e2]; exact hQ12_7, by rw [e2]; exact hc12_7, hX⟩)
        · skip
          refine xl_pure rfl rfl rfl (pv_assign (v := .bool _) rfl rfl) ?_
          refine xl_nil ?_
          refine xthen_normal ?_
          refine xc_cond_f rfl ?_
          refine xc_seq ?_
          refine xc_region ?_
          refine xl_pure rfl rfl rfl (pv_move (v := .slice _ _ _) rfl rfl) ?_
          refine xl_pure rfl rfl rfl (pv_fieldAddr rfl rfl) ?_
          refine xl_light rfl rfl rfl (lv_load (v := .int _ _) rfl rfl (by exact ld_get (i := 1) m0_0 (by omega))) ?_
          refine xl_heavy rfl rfl rfl (hv_call (g := 29) rfl rfl (c29 (hx.ext hX) hg hl (r.getD 1 0)) rfl) ?_
          rintro v3_3 H3_3 ⟨hv3_3, hE3_3⟩
          have m0_0 := m0_0.ext hE3_3
          have hX := hX.trans hE3_3
          rcases hv3_3 with ⟨hh, rfl⟩ | ⟨hh, rfl⟩
          · skip
            refine xl_pure rfl rfl rfl (pv_move (v := .tuple _) rfl rfl) ?_
            refine xl_pure rfl rfl rfl (pv_extract (v := .int _ _) rfl rfl rfl) ?_
            refine xl_pure rfl rfl rfl (pv_extract (v := .int _ _) rfl rfl rfl) ?_
            refine xl_pure rfl rfl rfl (pv_assign (v := .int _ _) rfl rfl) ?_
            refine xl_pure rfl rfl rfl (pv_assign (v := .int _ _) rfl rfl) ?_
            refine xl_nil ?_
            refine xthen_normal ?_
            refine xc_seq ?_
            refine xc_region ?_
            refine xl_pure rfl rfl rfl (pv_move (v := .slice _ _ _) rfl rfl) ?_
            refine xl_pure rfl rfl rfl (pv_move (v := .int _ _) rfl rfl) ?_
            refine xl_pure rfl rfl rfl (pv_move (v := .int _ _) rfl rfl) ?_
            refine xl_pure rfl rfl rfl (pv_assign (v := .slice _ _ _) rfl rfl) ?_
            refine xl_pure rfl rfl rfl (pv_assign (v := .int _ _) rfl rfl) ?_
            refine xl_pure rfl rfl rfl (pv_assign (v := .int _ _) rfl rfl) ?_
            refine xl_nil ?_
            refine xthen_normal ?_
            refine xc_ret ?_
            refine xblock_ret ?_
            refine xthen_ret ?_
            refine fin_ret (res3 (v := .slice _ _ _) (x := .int _ _) (y := .int _ _) rfl rfl rfl rfl) ?_
            first
              | (have h5 := act5t (x := x) h5_0 h7_0 h9_0 h11_0 hh; obtain ⟨e1, e2, e3⟩ := h5; exact ⟨a, c, by rw [e1, e2, e3], by rw [e2]; exact hx.ext hX, by rw [e2]; exact hc, hX⟩)
              | (have h5 := act5f (x := x) h5_0 h7_0 h9_0 h11_0 hh; obtain ⟨e1, e2, e3⟩ := h5; exact ⟨a, c, by rw [e1, e2, e3], by rw [e2]; exact hx.ext hX, by rw [e2]; exact hc, hX⟩)
          · skip
            refine xl_pure rfl rfl rfl (pv_move (v := .tuple _) rfl rfl) ?_
            refine xl_pure rfl rfl rfl (pv_extract (v := .int _ _) rfl rfl rfl) ?_
            refine xl_pure rfl rfl rfl (pv_extract (v := .int _ _) rfl rfl rfl) ?_
            refine xl_pure rfl rfl rfl (pv_assign (v := .int _ _) rfl rfl) ?_
            refine xl_pure rfl rfl rfl (pv_assign (v := .int _ _) rfl rfl) ?_
            refine xl_nil ?_
            refine xthen_normal ?_
            refine xc_seq ?_
            refine xc_region ?_
            refine xl_pure rfl rfl rfl (pv_move (v := .slice _ _ _) rfl rfl) ?_
            refine xl_pure rfl rfl rfl (pv_move (v := .int _ _) rfl rfl) ?_
            refine xl_pure rfl rfl rfl (pv_move (v := .int _ _) rfl rfl) ?_
            refine xl_pure rfl rfl rfl (pv_assign (v := .slice _ _ _) rfl rfl) ?_
            refine xl_pure rfl rfl rfl (pv_assign (v := .int _ _) rfl rfl) ?_
            refine xl_pure rfl rfl rfl (pv_assign (v := .int _ _) rfl rfl) ?_
            refine xl_nil ?_
            refine xthen_normal ?_
            refine xc_ret ?_
            refine xblock_ret ?_
            refine xthen_ret ?_
            refine fin_ret (res3 (v := .slice _ _ _) (x := .int _ _) (y := .int _ _) rfl rfl rfl rfl) ?_
            first
              | (have h5 := act5t (x := x) h5_0 h7_0 h9_0 h11_0 hh; obtain ⟨e1, e2, e3⟩ := h5; exact ⟨a, c, by rw [e1, e2, e3], by rw [e2]; exact hx.ext hX, by rw [e2]; exact hc, hX⟩)
              | (have h5 := act5f (x := x) h5_0 h7_0 h9_0 h11_0 hh; obtain ⟨e1, e2, e3⟩ := h5; exact ⟨a, c, by rw [e1, e2, e3], by rw [e2]; exact hx.ext hX, by rw [e2]; exact hc, hX⟩)

theorem c11 {O : Outer} {H : Heap} {bp c : Nat} {a : Option Addr} {x : List (List Int)} (mp : Blk H bp [.slice a (tb x).length c, .int .i64 (tot x)] 56) (hR : RowsT H 85 5 a (tb x)) (hc : (tb x).length ≤ c) (hna : a = none → c = 0) (hl : (tb x).length < 1000000) (hg : Goo x) (r : List Int) (hr : r.length = 4) (hn : r.getD 3 0 < 9223372036854775808) :
    FnC Try.prog 11 #[.pointer (some ⟨bp, 0, none⟩), .agg (ints r).toArray] O H (fun v H' => ∃ a' c', v = .tuple #[.int .i64 (actN x r), .int .i64 (actE x r)] ∧ But bp H H' ∧ Blk H' bp [.slice a' (tb (actX x r)).length c', .int .i64 (tot (actX x r))] 56 ∧ RowsT H' 85 5 a' (tb (actX x r)) ∧ (tb (actX x r)).length ≤ c' ∧ (a' = none → c' = 0)) := by
  refine fn_enter (A := [.pointer (some ⟨bp, 0, none⟩), .agg (ints r).toArray]) Try.func11 rfl rfl ?_
  have hX := But.refl bp H
  refine xc_seq ?_
  refine xc_region ?_
  refine xl_heavy rfl rfl rfl (hv_box rfl rfl) ?_
  rintro v0_0 H0_0 ⟨b0_0, rfl, hN0_0⟩
  have gb0_0 := hX.fresh hN0_0
  have nmp_0_0 := mp.apart hN0_0
  have mp := mp.ext hN0_0.ext
  have hR := hR.ext hN0_0.ext
  have hX := hX.transE hN0_0.ext
  have m0_0 := hN0_0.blk
  refine xl_pure rfl rfl rfl (pv_assign (v := .int _ _) rfl rfl) ?_
  refine xl_pure rfl rfl rfl (pv_assign (v := .int _ _) rfl rfl) ?_
  refine xl_nil ?_
  refine xthen_normal ?_
  refine xc_seq ?_
  refine xc_seq ?_
  refine xc_region ?_
  refine xl_pure rfl rfl rfl (pv_fieldAddr rfl rfl) ?_
  refine xl_light rfl rfl rfl (lv_load (v := .int _ _) rfl rfl (by exact ld_get (i := 0) m0_0 (by omega))) ?_
  refine xl_nil ?_
  refine xthen_normal ?_
  refine xc_block ?_
  refine xc_seq ?_
  refine xc_region ?_
  refine xl_dec rfl rfl rfl (pv_eql rfl rfl rfl) (fun h2_0 => ?_) (fun h2_0 => ?_)
  · skip
    refine xl_pure rfl rfl rfl (pv_assign (v := .bool _) rfl rfl) ?_
    refine xl_nil ?_
    refine xthen_normal ?_
    refine xc_cond_t rfl ?_
    refine xc_seq ?_
    refine xc_region ?_
    refine xl_pure rfl rfl rfl (pv_move (v := .pointer _) rfl rfl) ?_
    refine xl_pure rfl rfl rfl (pv_fieldAddr rfl rfl) ?_
    refine xl_light rfl rfl rfl (lv_load (v := .int _ _) rfl rfl (by exact ld_get (i := 1) m0_0 (by omega))) ?_
    refine xl_heavy rfl rfl rfl (hv_call (g := 19) rfl rfl (c19 mp hR hc hna hl hg (r.getD 1 0)) rfl) ?_
    rintro v3_3 H3_3 ⟨a3_3, c3_3, rfl, hB3_3, hT3_3, hR3_3, hc3_3, hna3_3⟩
    have hR := hR.offT mp hB3_3 (by first | rfl | assumption)
    have m0_0 := m0_0.off hB3_3 (by first | exact nmp_0_0.symm | exact ⟨m0_0.ne mp rfl⟩ | exact ⟨m0_0.ne mp (by assumption)⟩ | exact ⟨Ne.symm (mp.ne m0_0 (by assumption))⟩)
    have hX := hX.trans hB3_3
    have mp := hT3_3
    refine xl_pure rfl rfl rfl (pv_assign (v := .int _ _) rfl rfl) ?_
    refine xl_pure rfl rfl rfl (pv_assign (v := .int _ _) rfl rfl) ?_
    refine xl_nil ?_
    refine xthen_normal ?_
    refine xc_ret ?_
    refine xblock_ret ?_
    refine xthen_ret ?_
    refine fin_ret (res2 (v := .int _ _) (x := .int _ _) rfl rfl rfl) ?_
    obtain ⟨e1, e2, e3⟩ := act1 (x := x) h2_0
    exact ⟨a3_3, c3_3, by rw [e1, e3], hX, by rw [e2]; exact mp, by rw [e2]; exact hR3_3, by rw [e2]; exact hc3_3, hna3_3⟩
  · skip
    refine xl_pure rfl rfl rfl (pv_assign (v := .bool _) rfl rfl) ?_
    refine xl_nil ?_
    refine xthen_normal ?_
    refine xc_cond_f rfl ?_
    refine xc_seq ?_
    refine xc_region ?_
    refine xl_dec rfl rfl rfl (pv_eql rfl rfl rfl) (fun h4_0 => ?_) (fun h4_0 => ?_)
    · skip
      refine xl_pure rfl rfl rfl (pv_assign (v := .bool _) rfl rfl) ?_
      refine xl_nil ?_
      refine xthen_normal ?_
      refine xc_cond_t rfl ?_
      refine xc_seq ?_
      refine xc_region ?_
      refine xl_pure rfl rfl rfl (pv_move (v := .pointer _) rfl rfl) ?_
      refine xl_pure rfl rfl rfl (pv_fieldAddr rfl rfl) ?_
      refine xl_light rfl rfl rfl (lv_load (v := .int _ _) rfl rfl (by exact ld_get (i := 1) m0_0 (by omega))) ?_
      refine xl_pure rfl rfl rfl (pv_fieldAddr rfl rfl) ?_
      refine xl_light rfl rfl rfl (lv_load (v := .int _ _) rfl rfl (by exact ld_get (i := 3) m0_0 (by omega))) ?_
      refine xl_heavy rfl rfl rfl (hv_call (g := 21) rfl rfl (c21 mp hR hc hna hl hg (r.getD 1 0) (r.getD 3 0) hn) rfl) ?_
      rintro v5_5 H5_5 ⟨a5_5, c5_5, rfl, hB5_5, hT5_5, hR5_5, hc5_5, hna5_5⟩
      have hR := hR.offT mp hB5_5 (by first | rfl | assumption)
      have m0_0 := m0_0.off hB5_5 (by first | exact nmp_0_0.symm | exact ⟨m0_0.ne mp rfl⟩ | exact ⟨m0_0.ne mp (by assumption)⟩ | exact ⟨Ne.symm (mp.ne m0_0 (by assumption))⟩)
      have hX := hX.trans hB5_5
      have mp := hT5_5
      refine xl_pure rfl rfl rfl (pv_assign (v := .int _ _) rfl rfl) ?_
      refine xl_pure rfl rfl rfl (pv_assign (v := .int _ _) rfl rfl) ?_
      refine xl_nil ?_
      refine xthen_normal ?_
      refine xc_ret ?_
      refine xblock_ret ?_
      refine xthen_ret ?_
      refine fin_ret (res2 (v := .int _ _) (x := .int _ _) rfl rfl rfl) ?_
      obtain ⟨e1, e2, e3⟩ := act2 (x := x) h2_0 h4_0
      exact ⟨a5_5, c5_5, by rw [e1, e3], hX, by rw [e2]; exact mp, by rw [e2]; exact hR5_5, by rw [e2]; exact hc5_5, hna5_5⟩
    · skip
      refine xl_pure rfl rfl rfl (pv_assign (v := .bool _) rfl rfl) ?_
      refine xl_nil ?_
      refine xthen_normal ?_
      refine xc_cond_f rfl ?_
      refine xc_seq ?_
      refine xc_region ?_
      refine xl_dec rfl rfl rfl (pv_eql rfl rfl rfl) (fun h6_0 => ?_) (fun h6_0 => ?_)
      · skip
        refine xl_pure rfl rfl rfl (pv_assign (v := .bool _) rfl rfl) ?_
        refine xl_nil ?_
        refine xthen_normal ?_
        refine xc_cond_t rfl ?_
        refine xc_seq ?_
        refine xc_region ?_
        refine xl_pure rfl rfl rfl (pv_move (v := .pointer _) rfl rfl) ?_
        refine xl_pure rfl rfl rfl (pv_fieldAddr rfl rfl) ?_
        refine xl_light rfl rfl rfl (lv_load (v := .int _ _) rfl rfl (by exact ld_get (i := 1) m0_0 (by omega))) ?_
        refine xl_pure rfl rfl rfl (pv_fieldAddr rfl rfl) ?_
        refine xl_light rfl rfl rfl (lv_load (v := .int _ _) rfl rfl (by exact ld_get (i := 3) m0_0 (by omega))) ?_
        refine xl_heavy rfl rfl rfl (hv_call (g := 30) rfl rfl (c30 mp hR hc hna hl hg (r.getD 1 0) (r.getD 3 0)) rfl) ?_
        rintro v7_5 H7_5 ⟨a7_5, c7_5, rfl, hB7_5, hT7_5, hR7_5, hc7_5, hna7_5⟩
        have hR := hR.offT mp hB7_5 (by first | rfl | assumption)
        have m0_0 := m0_0.off hB7_5 (by first | exact nmp_0_0.symm | exact ⟨m0_0.ne mp rfl⟩ | exact ⟨m0_0.ne mp (by assumption)⟩ | exact ⟨Ne.symm (mp.ne m0_0 (by assumption))⟩)
        have hX := hX.trans hB7_5
        have mp := hT7_5
        refine xl_pure rfl rfl rfl (pv_assign (v := .int _ _) rfl rfl) ?_
        refine xl_pure rfl rfl rfl (pv_assign (v := .int _ _) rfl rfl) ?_
        refine xl_nil ?_
        refine xthen_normal ?_
        refine xc_ret ?_
        refine xblock_ret ?_
        refine xthen_ret ?_
        refine fin_ret (res2 (v := .int _ _) (x := .int _ _) rfl rfl rfl) ?_
        obtain ⟨e1, e2, e3⟩ := act3 (x := x) h2_0 h4_0 h6_0
        exact ⟨a7_5, c7_5, by rw [e1, e3], hX, by rw [e2]; exact mp, by rw [e2]; exact hR7_5, by rw [e2]; exact hc7_5, hna7_5⟩
      · skip
        refine xl_pure rfl rfl rfl (pv_assign (v := .bool _) rfl rfl) ?_
        refine xl_nil ?_
        refine xthen_normal ?_
        refine xc_cond_f rfl ?_
        refine xc_seq ?_
        refine xc_region ?_
        refine xl_dec rfl rfl rfl (pv_eql rfl rfl rfl) (fun h8_0 => ?_) (fun h8_0 => ?_)
        · skip
          refine xl_pure rfl rfl rfl (pv_assign (v := .bool _) rfl rfl) ?_
          refine xl_nil ?_
          refine xthen_normal ?_
          refine xc_cond_t rfl ?_
          refine xc_seq ?_
          refine xc_region ?_
          refine xl_pure rfl rfl rfl (pv_move (v := .pointer _) rfl rfl) ?_
          refine xl_pure rfl rfl rfl (pv_fieldAddr rfl rfl) ?_
          refine xl_light rfl rfl rfl (lv_load (v := .int _ _) rfl rfl (by exact ld_get (i := 1) m0_0 (by omega))) ?_
          refine xl_pure rfl rfl rfl (pv_fieldAddr rfl rfl) ?_
          refine xl_light rfl rfl rfl (lv_load (v := .int _ _) rfl rfl (by exact ld_get (i := 2) m0_0 (by omega))) ?_
          refine xl_pure rfl rfl rfl (pv_fieldAddr rfl rfl) ?_
          refine xl_light rfl rfl rfl (lv_load (v := .int _ _) rfl rfl (by exact ld_get (i := 3) m0_0 (by omega))) ?_
          refine xl_heavy rfl rfl rfl (hv_call (g := 17) rfl rfl (c17 mp hR hc hna hl hg (r.getD 1 0) (r.getD 2 0) (r.getD 3 0)) rfl) ?_
          rintro v9_7 H9_7 ⟨a9_7, c9_7, rfl, hB9_7, hT9_7, hR9_7, hc9_7, hna9_7⟩
          have hR := hR.offT mp hB9_7 (by first | rfl | assumption)
          have m0_0 := m0_0.off hB9_7 (by first | exact nmp_0_0.symm | exact ⟨m0_0.ne mp rfl⟩ | exact ⟨m0_0.ne mp (by assumption)⟩ | exact ⟨Ne.symm (mp.ne m0_0 (by assumption))⟩)
          have hX := hX.trans hB9_7
          have mp := hT9_7
          refine xl_pure rfl rfl rfl (pv_assign (v := .int _ _) rfl rfl) ?_
          refine xl_pure rfl rfl rfl (pv_assign (v := .int _ _) rfl rfl) ?_
          refine xl_nil ?_
          refine xthen_normal ?_
          refine xc_ret ?_
          refine xblock_ret ?_
          refine xthen_ret ?_
          refine fin_ret (res2 (v := .int _ _) (x := .int _ _) rfl rfl rfl) ?_
          obtain ⟨e1, e2, e3⟩ := act4 (x := x) h2_0 h4_0 h6_0 h8_0
          exact ⟨a9_7, c9_7, by rw [e1, e3], hX, by rw [e2]; exact mp, by rw [e2]; exact hR9_7, by rw [e2]; exact hc9_7, hna9_7⟩
        · skip
          refine xl_pure rfl rfl rfl (pv_assign (v := .bool _) rfl rfl) ?_
          refine xl_nil ?_
          refine xthen_normal ?_
          refine xc_cond_f rfl ?_
          refine xc_skip ?_
          refine xblock_normal ?_
          refine xthen_normal ?_
          refine xc_seq ?_
          refine xc_region ?_
          refine xl_pure rfl rfl rfl (pv_move (v := .pointer _) rfl rfl) ?_
          refine xl_pure rfl rfl rfl (pv_fieldAddr rfl rfl) ?_
          refine xl_light rfl rfl rfl (lv_load (v := .int _ _) rfl rfl (by exact ld_get (i := 1) m0_0 (by omega))) ?_
          refine xl_heavy rfl rfl rfl (hv_call (g := 22) rfl rfl (c22 mp hR hc hna hl hg (r.getD 1 0)) rfl) ?_
          rintro v10_3 H10_3 ⟨hv10_3, hE10_3⟩
          have mp := mp.ext hE10_3
          have hR := hR.ext hE10_3
          have m0_0 := m0_0.ext hE10_3
          have hX := hX.transE hE10_3
          rcases hv10_3 with ⟨hh, rfl⟩ | ⟨hh, rfl⟩
          · skip
            refine xl_pure rfl rfl rfl (pv_extract (v := .int _ _) rfl rfl rfl) ?_
            refine xl_pure rfl rfl rfl (pv_extract (v := .int _ _) rfl rfl rfl) ?_
            refine xl_pure rfl rfl rfl (pv_assign (v := .int _ _) rfl rfl) ?_
            refine xl_pure rfl rfl rfl (pv_assign (v := .int _ _) rfl rfl) ?_
            refine xl_nil ?_
            refine xthen_normal ?_
            refine xc_ret ?_
            refine fin_ret (res2 (v := .int _ _) (x := .int _ _) rfl rfl rfl) ?_
            first
              | (have h5 := act5t (x := x) h2_0 h4_0 h6_0 h8_0 hh; obtain ⟨e1, e2, e3⟩ := h5; exact ⟨a, c, by rw [e1, e3], hX, by rw [e2]; exact mp, by rw [e2]; exact hR, by rw [e2]; exact hc, hna⟩)
              | (have h5 := act5f (x := x) h2_0 h4_0 h6_0 h8_0 hh; obtain ⟨e1, e2, e3⟩ := h5; exact ⟨a, c, by rw [e1, e3], hX, by rw [e2]; exact mp, by rw [e2]; exact hR, by rw [e2]; exact hc, hna⟩)
          · skip
            refine xl_pure rfl rfl rfl (pv_extract (v := .int _ _) rfl rfl rfl) ?_
            refine xl_pure rfl rfl rfl (pv_extract (v := .int _ _) rfl rfl rfl) ?_
            refine xl_pure rfl rfl rfl (pv_assign (v := .int _ _) rfl rfl) ?_
            refine xl_pure rfl rfl rfl (pv_assign (v := .int _ _) rfl rfl) ?_
            refine xl_nil ?_
            refine xthen_normal ?_
            refine xc_ret ?_
            refine fin_ret (res2 (v := .int _ _) (x := .int _ _) rfl rfl rfl) ?_
            first
              | (have h5 := act5t (x := x) h2_0 h4_0 h6_0 h8_0 hh; obtain ⟨e1, e2, e3⟩ := h5; exact ⟨a, c, by rw [e1, e3], hX, by rw [e2]; exact mp, by rw [e2]; exact hR, by rw [e2]; exact hc, hna⟩)
              | (have h5 := act5f (x := x) h2_0 h4_0 h6_0 h8_0 hh; obtain ⟨e1, e2, e3⟩ := h5; exact ⟨a, c, by rw [e1, e3], hX, by rw [e2]; exact mp, by rw [e2]; exact hR, by rw [e2]; exact hc, hna⟩)

theorem c11n {O : Outer} {H : Heap} (r : List Int) (hr : r.length = 4) :
    FnC Try.prog 11 #[.pointer none, .agg (ints r).toArray] O H (fun v H' => v = .tuple #[.int .i64 0, .int .i64 1] ∧ Ext H H') := by
  refine fn_enter (A := [.pointer none, .agg (ints r).toArray]) Try.func11 rfl rfl ?_
  have hX := Ext.refl H
  refine xc_seq ?_
  refine xc_region ?_
  refine xl_heavy rfl rfl rfl (hv_box rfl rfl) ?_
  rintro v0_0 H0_0 ⟨b0_0, rfl, hN0_0⟩
  have gb0_0 := hX.fresh hN0_0
  have hX := hX.trans hN0_0.ext
  have m0_0 := hN0_0.blk
  refine xl_pure rfl rfl rfl (pv_assign (v := .int _ _) rfl rfl) ?_
  refine xl_pure rfl rfl rfl (pv_assign (v := .int _ _) rfl rfl) ?_
  refine xl_nil ?_
  refine xthen_normal ?_
  refine xc_seq ?_
  refine xc_seq ?_
  refine xc_region ?_
  refine xl_pure rfl rfl rfl (pv_fieldAddr rfl rfl) ?_
  refine xl_light rfl rfl rfl (lv_load (v := .int _ _) rfl rfl (by exact ld_get (i := 0) m0_0 (by omega))) ?_
  refine xl_nil ?_
  refine xthen_normal ?_
  refine xc_block ?_
  refine xc_seq ?_
  refine xc_region ?_
  refine xl_dec rfl rfl rfl (pv_eql rfl rfl rfl) (fun h2_0 => ?_) (fun h2_0 => ?_)
  · skip
    refine xl_pure rfl rfl rfl (pv_assign (v := .bool _) rfl rfl) ?_
    refine xl_nil ?_
    refine xthen_normal ?_
    refine xc_cond_t rfl ?_
    refine xc_seq ?_
    refine xc_region ?_
    refine xl_pure rfl rfl rfl (pv_move (v := .pointer _) rfl rfl) ?_
    refine xl_pure rfl rfl rfl (pv_fieldAddr rfl rfl) ?_
    refine xl_light rfl rfl rfl (lv_load (v := .int _ _) rfl rfl (by exact ld_get (i := 1) m0_0 (by omega))) ?_
    refine xl_heavy rfl rfl rfl (hv_call (g := 19) rfl rfl (c19n _) rfl) ?_
    rintro v3_3 H3_3 ⟨rfl, hE3_3⟩
    have m0_0 := m0_0.ext hE3_3
    have hX := hX.trans hE3_3
    refine xl_pure rfl rfl rfl (pv_assign (v := .int _ _) rfl rfl) ?_
    refine xl_pure rfl rfl rfl (pv_assign (v := .int _ _) rfl rfl) ?_
    refine xl_nil ?_
    refine xthen_normal ?_
    refine xc_ret ?_
    refine xblock_ret ?_
    refine xthen_ret ?_
    refine fin_ret (res2 (v := .int _ _) (x := .int _ _) rfl rfl rfl) ?_
    exact ⟨rfl, hX⟩
  · skip
    refine xl_pure rfl rfl rfl (pv_assign (v := .bool _) rfl rfl) ?_
    refine xl_nil ?_
    refine xthen_normal ?_
    refine xc_cond_f rfl ?_
    refine xc_seq ?_
    refine xc_region ?_
    refine xl_dec rfl rfl rfl (pv_eql rfl rfl rfl) (fun h4_0 => ?_) (fun h4_0 => ?_)
    · skip
      refine xl_pure rfl rfl rfl (pv_assign (v := .bool _) rfl rfl) ?_
      refine xl_nil ?_
      refine xthen_normal ?_
      refine xc_cond_t rfl ?_
      refine xc_seq ?_
      refine xc_region ?_
      refine xl_pure rfl rfl rfl (pv_move (v := .pointer _) rfl rfl) ?_
      refine xl_pure rfl rfl rfl (pv_fieldAddr rfl rfl) ?_
      refine xl_light rfl rfl rfl (lv_load (v := .int _ _) rfl rfl (by exact ld_get (i := 1) m0_0 (by omega))) ?_
      refine xl_pure rfl rfl rfl (pv_fieldAddr rfl rfl) ?_
      refine xl_light rfl rfl rfl (lv_load (v := .int _ _) rfl rfl (by exact ld_get (i := 3) m0_0 (by omega))) ?_
      refine xl_heavy rfl rfl rfl (hv_call (g := 21) rfl rfl (c21n _ _) rfl) ?_
      rintro v5_5 H5_5 ⟨rfl, hE5_5⟩
      have m0_0 := m0_0.ext hE5_5
      have hX := hX.trans hE5_5
      refine xl_pure rfl rfl rfl (pv_assign (v := .int _ _) rfl rfl) ?_
      refine xl_pure rfl rfl rfl (pv_assign (v := .int _ _) rfl rfl) ?_
      refine xl_nil ?_
      refine xthen_normal ?_
      refine xc_ret ?_
      refine xblock_ret ?_
      refine xthen_ret ?_
      refine fin_ret (res2 (v := .int _ _) (x := .int _ _) rfl rfl rfl) ?_
      exact ⟨rfl, hX⟩
    · skip
      refine xl_pure rfl rfl rfl (pv_assign (v := .bool _) rfl rfl) ?_
      refine xl_nil ?_
      refine xthen_normal ?_
      refine xc_cond_f rfl ?_
      refine xc_seq ?_
      refine xc_region ?_
      refine xl_dec rfl rfl rfl (pv_eql rfl rfl rfl) (fun h6_0 => ?_) (fun h6_0 => ?_)
      · skip
        refine xl_pure rfl rfl rfl (pv_assign (v := .bool _) rfl rfl) ?_
        refine xl_nil ?_
        refine xthen_normal ?_
        refine xc_cond_t rfl ?_
        refine xc_seq ?_
        refine xc_region ?_
        refine xl_pure rfl rfl rfl (pv_move (v := .pointer _) rfl rfl) ?_
        refine xl_pure rfl rfl rfl (pv_fieldAddr rfl rfl) ?_
        refine xl_light rfl rfl rfl (lv_load (v := .int _ _) rfl rfl (by exact ld_get (i := 1) m0_0 (by omega))) ?_
        refine xl_pure rfl rfl rfl (pv_fieldAddr rfl rfl) ?_
        refine xl_light rfl rfl rfl (lv_load (v := .int _ _) rfl rfl (by exact ld_get (i := 3) m0_0 (by omega))) ?_
        refine xl_heavy rfl rfl rfl (hv_call (g := 30) rfl rfl (c30n _ _) rfl) ?_
        rintro v7_5 H7_5 ⟨rfl, hE7_5⟩
        have m0_0 := m0_0.ext hE7_5
        have hX := hX.trans hE7_5
        refine xl_pure rfl rfl rfl (pv_assign (v := .int _ _) rfl rfl) ?_
        refine xl_pure rfl rfl rfl (pv_assign (v := .int _ _) rfl rfl) ?_
        refine xl_nil ?_
        refine xthen_normal ?_
        refine xc_ret ?_
        refine xblock_ret ?_
        refine xthen_ret ?_
        refine fin_ret (res2 (v := .int _ _) (x := .int _ _) rfl rfl rfl) ?_
        exact ⟨rfl, hX⟩
      · skip
        refine xl_pure rfl rfl rfl (pv_assign (v := .bool _) rfl rfl) ?_
        refine xl_nil ?_
        refine xthen_normal ?_
        refine xc_cond_f rfl ?_
        refine xc_seq ?_
        refine xc_region ?_
        refine xl_dec rfl rfl rfl (pv_eql rfl rfl rfl) (fun h8_0 => ?_) (fun h8_0 => ?_)
        · skip
          refine xl_pure rfl rfl rfl (pv_assign (v := .bool _) rfl rfl) ?_
          refine xl_nil ?_
          refine xthen_normal ?_
          refine xc_cond_t rfl ?_
          refine xc_seq ?_
          refine xc_region ?_
          refine xl_pure rfl rfl rfl (pv_move (v := .pointer _) rfl rfl) ?_
          refine xl_pure rfl rfl rfl (pv_fieldAddr rfl rfl) ?_
          refine xl_light rfl rfl rfl (lv_load (v := .int _ _) rfl rfl (by exact ld_get (i := 1) m0_0 (by omega))) ?_
          refine xl_pure rfl rfl rfl (pv_fieldAddr rfl rfl) ?_
          refine xl_light rfl rfl rfl (lv_load (v := .int _ _) rfl rfl (by exact ld_get (i := 2) m0_0 (by omega))) ?_
          refine xl_pure rfl rfl rfl (pv_fieldAddr rfl rfl) ?_
          refine xl_light rfl rfl rfl (lv_load (v := .int _ _) rfl rfl (by exact ld_get (i := 3) m0_0 (by omega))) ?_
          refine xl_heavy rfl rfl rfl (hv_call (g := 17) rfl rfl (c17n _ _ _) rfl) ?_
          rintro v9_7 H9_7 ⟨rfl, hE9_7⟩
          have m0_0 := m0_0.ext hE9_7
          have hX := hX.trans hE9_7
          refine xl_pure rfl rfl rfl (pv_assign (v := .int _ _) rfl rfl) ?_
          refine xl_pure rfl rfl rfl (pv_assign (v := .int _ _) rfl rfl) ?_
          refine xl_nil ?_
          refine xthen_normal ?_
          refine xc_ret ?_
          refine xblock_ret ?_
          refine xthen_ret ?_
          refine fin_ret (res2 (v := .int _ _) (x := .int _ _) rfl rfl rfl) ?_
          exact ⟨rfl, hX⟩
        · skip
          refine xl_pure rfl rfl rfl (pv_assign (v := .bool _) rfl rfl) ?_
          refine xl_nil ?_
          refine xthen_normal ?_
          refine xc_cond_f rfl ?_
          refine xc_skip ?_
          refine xblock_normal ?_
          refine xthen_normal ?_
          refine xc_seq ?_
          refine xc_region ?_
          refine xl_pure rfl rfl rfl (pv_move (v := .pointer _) rfl rfl) ?_
          refine xl_pure rfl rfl rfl (pv_fieldAddr rfl rfl) ?_
          refine xl_light rfl rfl rfl (lv_load (v := .int _ _) rfl rfl (by exact ld_get (i := 1) m0_0 (by omega))) ?_
          refine xl_heavy rfl rfl rfl (hv_call (g := 22) rfl rfl (c22n _) rfl) ?_
          rintro v10_3 H10_3 ⟨rfl, hE10_3⟩
          have m0_0 := m0_0.ext hE10_3
          have hX := hX.trans hE10_3
          refine xl_pure rfl rfl rfl (pv_extract (v := .int _ _) rfl rfl rfl) ?_
          refine xl_pure rfl rfl rfl (pv_extract (v := .int _ _) rfl rfl rfl) ?_
          refine xl_pure rfl rfl rfl (pv_assign (v := .int _ _) rfl rfl) ?_
          refine xl_pure rfl rfl rfl (pv_assign (v := .int _ _) rfl rfl) ?_
          refine xl_nil ?_
          refine xthen_normal ?_
          refine xc_ret ?_
          refine fin_ret (res2 (v := .int _ _) (x := .int _ _) rfl rfl rfl) ?_
          exact ⟨rfl, hX⟩
end Go.XG
