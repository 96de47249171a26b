/-
  Walks of the seat's functions over the logic XG: each function, what it computes. Printed by a program out of wip/walks.py.
-/
import Derived.Test.YthglaedojgiifaaI
import Derived.Test.YthglaedojgiifaaTm
import Derived.Test.YthglaedojgiifaaTa
import Derived.Test.YthglaedojgiifaaTb
import Derived.Test.YthglaedojgiifaaTc
import Derived.Test.YthglaedojgiifaaTd
import Derived.Test.YthglaedojgiifaaTe
import Derived.Test.YthglaedojgiifaaP
import Derived.Test.YthglaedojgiifaaWa
import Derived.Test.YthglaedojgiifaaWb
import Derived.Test.YthglaedojgiifaaWc
import Derived.Test.YthglaedojgiifaaWd
import Derived.Test.YthglaedojgiifaaWe
import Derived.Test.YthglaedojgiifaaWf
import Derived.Test.YthglaedojgiifaaWg
import Derived.Test.YthglaedojgiifaaWh
import Derived.Test.YthglaedojgiifaaWi
import Derived.Test.YthglaedojgiifaaWj
import Derived.Test.YthglaedojgiifaaWk
namespace Go.XG
open Go.Proofs
set_option maxRecDepth 4000
set_option maxHeartbeats 4000000
theorem c14n {O : Outer} {H : Heap}  :
    FnC Try.prog 14 #[.pointer none] O H (fun v H' => v = .slice none 0 0 ∧ Ext H H') := by
  refine fn_enter (A := [.pointer none]) Try.func14 rfl rfl ?_
  have hX := Ext.refl H
  refine xc_seq ?_
  refine xc_region ?_
  refine xl_pure rfl rfl rfl (pv_assign (v := .slice _ _ _) rfl rfl) ?_
  refine xl_nil ?_
  refine xthen_normal ?_
  refine xc_seq ?_
  refine xc_region ?_
  refine xl_heavy rfl rfl rfl (hv_alloc rfl rfl) ?_
  rintro v1_0 H1_0 ⟨b1_0, rfl, hN1_0⟩
  have gb1_0 := hX.fresh hN1_0
  have hX := hX.trans hN1_0.ext
  have m1_0 := hN1_0.blk
  refine xl_nil ?_
  refine xthen_normal ?_
  refine xc_seq ?_
  refine xc_region ?_
  refine xl_pure rfl rfl rfl (pv_move (v := .pointer _) rfl rfl) ?_
  refine xl_heavy rfl rfl rfl (hv_call (g := 32) rfl rfl (c32 none) rfl) ?_
  rintro v2_1 H2_1 ⟨bi, rfl, hN2_1⟩
  have m1_0 := m1_0.ext hN2_1.ext
  have hX := hX.trans hN2_1.ext
  have mi := hN2_1.blk
  refine xl_pure rfl rfl rfl (pv_assign rfl rfl) ?_
  refine xl_nil ?_
  refine xthen_normal ?_
  refine xc_seq ?_
  refine xc_seq ?_
  refine xc_region ?_
  refine xl_pure rfl rfl rfl (pv_move rfl rfl) ?_
  refine xl_pure rfl rfl rfl (pv_eql_fn rfl rfl rfl) ?_
  refine xl_nil ?_
  refine xthen_normal ?_
  refine xc_cond_f rfl ?_
  refine xc_skip ?_
  refine xthen_normal ?_
  refine xc_seq_marks2 ?_
  refine xc_region ?_
  refine xl_pure rfl rfl rfl (pv_move rfl rfl) ?_
  refine xl_nil ?_
  refine xthen_normal ?_
  have hXs := hX.size
  refine xs_rangeB (f := fun i => [.int .i64 0, .int .i64 0]) (n := 0) rfl (tAlln (b1 := bi) _) (fun _ => rfl) rfl (fun i H' => (Blk H' b1_0 [.slice none 0 0] 33) ∧ (Blk H' bi [.pointer none] 29) ∧ (Ext H H')) (fun H' => False) ?_ ?_ ?_ ?_ ?_ ?_ ?_ ?_ ?_ ?_
  · rintro i H1 H2 ⟨m1_0, mi, hX⟩ e; exact ⟨m1_0.ext e, mi.ext e, hX.trans e⟩
  · rintro i l H1 H2 hle ⟨m1_0, mi, hX⟩ u; exact ⟨m1_0.lp u, mi.lp u, hX.lp u (Nat.le_trans hXs hle)⟩
  · intro _ _ h; exact h.elim
  · intro _ _ _ _ h; exact h.elim
  · rintro H' ⟨m1_0, mi, hX⟩; exact mi
  · rintro i H' ⟨m1_0, mi, hX⟩; exact trivial
  · exact ⟨m1_0, mi, hX⟩
  · skip
    intro _ _ _ _ hi; exact absurd hi (Nat.not_lt_zero _)
  · skip
    clear hX m1_0 mi
    rintro Hd6 ⟨m1_0, mi, hX⟩ hM
    replace m1_0 : Blk Hd6 b1_0 [.slice none 0 0] 33 := m1_0
    replace mi : Blk Hd6 bi [.pointer none] 29 := mi
    replace hX : Ext H Hd6 := hX
    refine xc_seq ?_
    refine xc_region ?_
    refine xl_light rfl rfl rfl (lv_load (v := .slice _ _ _) rfl rfl (ld_blk m1_0 rfl)) ?_
    refine xl_pure rfl rfl rfl (pv_assign (v := .slice _ _ _) rfl rfl) ?_
    refine xl_nil ?_
    refine xthen_normal ?_
    refine xc_retm rfl hM.h ?_
    have uM := lpw_set (o' := .deferred none) hM.h hM.r
    have m1_0 := m1_0.lp uM
    have mi := mi.lp uM
    have hX := hX.lp uM hXs
    refine xret_ret ?_
    refine fin_ret (res1 (v := .slice _ _ _) rfl rfl) ?_
    exact ⟨rfl, hX⟩
  · skip
    intro _ h; exact h.elim

theorem c23n {O : Outer} {H : Heap} (fk tk : List Int) (hf : fk.length = 4) (ht : tk.length = 4) (most : Int) :
    FnC Try.prog 23 #[.pointer none, .agg (ints fk).toArray, .agg (ints tk).toArray, .int .i64 most] O H (fun v H' => v = .slice none 0 0 ∧ Ext H H') := by
  refine fn_enter (A := [.pointer none, .agg (ints fk).toArray, .agg (ints tk).toArray, .int .i64 most]) Try.func23 rfl rfl ?_
  have hX := Ext.refl H
  refine xc_seq ?_
  refine xc_region ?_
  refine xl_heavy rfl rfl rfl (hv_box rfl rfl) ?_
  rintro v0_0 H0_0 ⟨b0_0, rfl, hN0_0⟩
  have gb0_0 := hX.fresh hN0_0
  have hX := hX.trans hN0_0.ext
  have m0_0 := hN0_0.blk
  refine xl_heavy rfl rfl rfl (hv_box rfl rfl) ?_
  rintro v0_1 H0_1 ⟨b0_1, rfl, hN0_1⟩
  have gb0_1 := hX.fresh hN0_1
  have nm0_0_0_1 := m0_0.apart hN0_1
  have m0_0 := m0_0.ext hN0_1.ext
  have hX := hX.trans hN0_1.ext
  have m0_1 := hN0_1.blk
  refine xl_heavy rfl rfl rfl (hv_box rfl rfl) ?_
  rintro v0_2 H0_2 ⟨b0_2, rfl, hN0_2⟩
  have gb0_2 := hX.fresh hN0_2
  have nm0_0_0_2 := m0_0.apart hN0_2
  have nm0_1_0_2 := m0_1.apart hN0_2
  have m0_0 := m0_0.ext hN0_2.ext
  have m0_1 := m0_1.ext hN0_2.ext
  have hX := hX.trans hN0_2.ext
  have m0_2 := hN0_2.blk
  refine xl_pure rfl rfl rfl (pv_assign (v := .slice _ _ _) rfl rfl) ?_
  refine xl_nil ?_
  refine xthen_normal ?_
  refine xc_seq ?_
  refine xc_region ?_
  refine xl_heavy rfl rfl rfl (hv_alloc rfl rfl) ?_
  rintro v1_0 H1_0 ⟨b1_0, rfl, hN1_0⟩
  have gb1_0 := hX.fresh hN1_0
  have nm0_0_1_0 := m0_0.apart hN1_0
  have nm0_1_1_0 := m0_1.apart hN1_0
  have nm0_2_1_0 := m0_2.apart hN1_0
  have m0_0 := m0_0.ext hN1_0.ext
  have m0_1 := m0_1.ext hN1_0.ext
  have m0_2 := m0_2.ext hN1_0.ext
  have hX := hX.trans hN1_0.ext
  have m1_0 := hN1_0.blk
  refine xl_nil ?_
  refine xthen_normal ?_
  refine xc_seq ?_
  refine xc_region ?_
  refine xl_pure rfl rfl rfl (pv_move (v := .pointer _) rfl rfl) ?_
  refine xl_light rfl rfl rfl (lv_load (v := .agg _) rfl rfl (ld_ints m0_0 hf)) ?_
  refine xl_light rfl rfl rfl (lv_load (v := .agg _) rfl rfl (ld_ints m0_1 ht)) ?_
  refine xl_heavy rfl rfl rfl (hv_call (g := 33) rfl rfl (c33 none fk tk hf ht) rfl) ?_
  rintro v2_3 H2_3 ⟨bi, bj, bk, rfl, mi, mj, mk, hE2_3⟩
  have m1_0 := m1_0.ext hE2_3
  have hX := hX.trans hE2_3
  refine xl_pure rfl rfl rfl (pv_assign rfl rfl) ?_
  refine xl_nil ?_
  refine xthen_normal ?_
  refine xc_seq ?_
  refine xc_seq ?_
  refine xc_region ?_
  refine xl_pure rfl rfl rfl (pv_move rfl rfl) ?_
  refine xl_pure rfl rfl rfl (pv_eql_fn rfl rfl rfl) ?_
  refine xl_nil ?_
  refine xthen_normal ?_
  refine xc_cond_f rfl ?_
  refine xc_skip ?_
  refine xthen_normal ?_
  refine xc_seq_marks2 ?_
  refine xc_region ?_
  refine xl_pure rfl rfl rfl (pv_move rfl rfl) ?_
  refine xl_nil ?_
  refine xthen_normal ?_
  have hXs := hX.size
  refine xs_rangeB (f := fun i => [.int .i64 0, .int .i64 0]) (n := 0) rfl (tRangen (b1 := bi) (b2 := bj) (b3 := bk) fk tk hf ht _) (fun _ => rfl) rfl (fun i H' => (Blk H' b1_0 [.slice none 0 0] 33) ∧ (Blk H' bi [.pointer none] 29) ∧ (Blk H' bj (ints fk) 23) ∧ (Blk H' bk (ints tk) 23) ∧ (Ext H H')) (fun H' => False) ?_ ?_ ?_ ?_ ?_ ?_ ?_ ?_ ?_ ?_
  · rintro i H1 H2 ⟨m1_0, mi, mj, mk, hX⟩ e; exact ⟨m1_0.ext e, mi.ext e, mj.ext e, mk.ext e, hX.trans e⟩
  · rintro i l H1 H2 hle ⟨m1_0, mi, mj, mk, hX⟩ u; exact ⟨m1_0.lp u, mi.lp u, mj.lp u, mk.lp u, hX.lp u (Nat.le_trans hXs hle)⟩
  · intro _ _ h; exact h.elim
  · intro _ _ _ _ h; exact h.elim
  · rintro H' ⟨m1_0, mi, mj, mk, hX⟩; exact ⟨mi, mj, mk⟩
  · rintro i H' ⟨m1_0, mi, mj, mk, hX⟩; exact trivial
  · exact ⟨m1_0, mi, mj, mk, hX⟩
  · skip
    intro _ _ _ _ hi; exact absurd hi (Nat.not_lt_zero _)
  · skip
    clear hX m0_0 m0_1 m0_2 m1_0 mi mj mk
    rintro Hd6 ⟨m1_0, mi, mj, mk, hX⟩ hM
    replace m1_0 : Blk Hd6 b1_0 [.slice none 0 0] 33 := m1_0
    replace mi : Blk Hd6 bi [.pointer none] 29 := mi
    replace mj : Blk Hd6 bj (ints fk) 23 := mj
    replace mk : Blk Hd6 bk (ints tk) 23 := mk
    replace hX : Ext H Hd6 := hX
    refine xc_seq ?_
    refine xc_region ?_
    refine xl_light rfl rfl rfl (lv_load (v := .slice _ _ _) rfl rfl (ld_blk m1_0 rfl)) ?_
    refine xl_pure rfl rfl rfl (pv_assign (v := .slice _ _ _) rfl rfl) ?_
    refine xl_nil ?_
    refine xthen_normal ?_
    refine xc_retm rfl hM.h ?_
    have uM := lpw_set (o' := .deferred none) hM.h hM.r
    have m1_0 := m1_0.lp uM
    have mi := mi.lp uM
    have mj := mj.lp uM
    have mk := mk.lp uM
    have hX := hX.lp uM hXs
    refine xret_ret ?_
    refine fin_ret (res1 (v := .slice _ _ _) rfl rfl) ?_
    exact ⟨rfl, hX⟩
  · skip
    intro _ h; exact h.elim

theorem c7 {O : Outer} {H : Heap} (x0 x1 x2 x3 n : Int) :
    FnC Try.prog 7 #[.agg #[.int .i64 x0, .int .i64 x1, .int .i64 x2, .int .i64 x3], .int .i64 n] O H (fun v H' => v = .bool true ∧ Ext H H') := by
  refine fn_enter (A := [.agg #[.int .i64 x0, .int .i64 x1, .int .i64 x2, .int .i64 x3], .int .i64 n]) Try.func7 rfl rfl ?_
  have hX := Ext.refl H
  refine xc_seq ?_
  refine xc_region ?_
  refine xl_heavy rfl rfl rfl (hv_box rfl rfl) ?_
  rintro v0_0 H0_0 ⟨b0_0, rfl, hN0_0⟩
  have gb0_0 := hX.fresh hN0_0
  have hX := hX.trans hN0_0.ext
  have m0_0 := hN0_0.blk
  refine xl_pure rfl rfl rfl (pv_assign (v := .bool _) rfl rfl) ?_
  refine xl_nil ?_
  refine xthen_normal ?_
  refine xc_seq ?_
  refine xc_region ?_
  refine xl_pure rfl rfl rfl (pv_assign (v := .pointer _) rfl rfl) ?_
  refine xl_nil ?_
  refine xthen_normal ?_
  refine xc_seq ?_
  refine xc_region ?_
  refine xl_pure rfl rfl rfl (pv_move (v := .pointer _) rfl rfl) ?_
  refine xl_light rfl rfl rfl (lv_load (v := .agg _) rfl rfl (ld_blk_a m0_0 rfl rfl)) ?_
  refine xl_heavy rfl rfl rfl (hv_call (g := 25) rfl rfl (c25n [x0, x1, x2, x3] rfl) rfl) ?_
  rintro v2_2 H2_2 ⟨rfl, hE2_2⟩
  have m0_0 := m0_0.ext hE2_2
  have hX := hX.trans hE2_2
  refine xl_pure rfl rfl rfl (pv_move (v := .tuple _) rfl rfl) ?_
  refine xl_pure rfl rfl rfl (pv_extract (v := .int _ _) rfl rfl rfl) ?_
  refine xl_pure rfl rfl rfl (pv_extract (v := .bool _) rfl rfl rfl) ?_
  refine xl_pure rfl rfl rfl (pv_assign (v := .int _ _) rfl rfl) ?_
  refine xl_pure rfl rfl rfl (pv_assign (v := .bool _) rfl rfl) ?_
  refine xl_nil ?_
  refine xthen_normal ?_
  refine xc_seq ?_
  refine xc_region ?_
  refine xl_pure rfl rfl rfl (pv_move (v := .pointer _) rfl rfl) ?_
  refine xl_light rfl rfl rfl (lv_load (v := .agg _) rfl rfl (ld_blk_a m0_0 rfl rfl)) ?_
  refine xl_heavy rfl rfl rfl (hv_call (g := 26) rfl rfl (c26n [x0, x1, x2, x3] rfl) rfl) ?_
  rintro v3_2 H3_2 ⟨rfl, hE3_2⟩
  have m0_0 := m0_0.ext hE3_2
  have hX := hX.trans hE3_2
  refine xl_pure rfl rfl rfl (pv_move (v := .tuple _) rfl rfl) ?_
  refine xl_pure rfl rfl rfl (pv_extract (v := .int _ _) rfl rfl rfl) ?_
  refine xl_pure rfl rfl rfl (pv_extract (v := .bool _) rfl rfl rfl) ?_
  refine xl_pure rfl rfl rfl (pv_assign (v := .int _ _) rfl rfl) ?_
  refine xl_pure rfl rfl rfl (pv_assign (v := .bool _) rfl rfl) ?_
  refine xl_nil ?_
  refine xthen_normal ?_
  refine xc_seq ?_
  refine xc_region ?_
  refine xl_pure rfl rfl rfl (pv_move (v := .pointer _) rfl rfl) ?_
  refine xl_pure rfl rfl rfl (pv_move (v := .int _ _) rfl rfl) ?_
  refine xl_heavy rfl rfl rfl (hv_call (g := 22) rfl rfl (c22n n) rfl) ?_
  rintro v4_2 H4_2 ⟨rfl, hE4_2⟩
  have m0_0 := m0_0.ext hE4_2
  have hX := hX.trans hE4_2
  refine xl_pure rfl rfl rfl (pv_move (v := .tuple _) rfl rfl) ?_
  refine xl_pure rfl rfl rfl (pv_extract (v := .agg _) rfl rfl rfl) ?_
  refine xl_pure rfl rfl rfl (pv_extract (v := .int _ _) rfl rfl rfl) ?_
  refine xl_pure rfl rfl rfl (pv_extract (v := .bool _) rfl rfl rfl) ?_
  refine xl_heavy rfl rfl rfl (hv_alloc rfl rfl) ?_
  rintro v4_7 H4_7 ⟨b4_7, rfl, hN4_7⟩
  have gb4_7 := hX.fresh hN4_7
  have nm0_0_4_7 := m0_0.apart hN4_7
  have m0_0 := m0_0.ext hN4_7.ext
  have hX := hX.trans hN4_7.ext
  have m4_7 := hN4_7.blk
  refine xl_store rfl rfl (hv_storeA (vs := [.int _ _, .int _ _, .int _ _, .int _ _]) rfl rfl rfl (m4_7) rfl (by rfl) rfl) ?_
  rintro v4_8 H4_8 ⟨hU4_8, hZ4_8⟩
  have m0_0 := m0_0.off hU4_8.but (by first | exact nm0_0_4_7 | exact ⟨m0_0.ne m4_7 rfl⟩ | exact ⟨m0_0.ne m4_7 (by assumption)⟩ | exact ⟨Ne.symm (m4_7.ne m0_0 (by assumption))⟩)
  have hX := hX.upd hU4_8.but gb4_7
  have m4_7 := hU4_8.blk
  refine xl_pure rfl rfl rfl (pv_assign (v := .int _ _) rfl rfl) ?_
  refine xl_pure rfl rfl rfl (pv_assign (v := .bool _) rfl rfl) ?_
  refine xl_nil ?_
  refine xthen_normal ?_
  refine xc_seq ?_
  refine xc_region ?_
  refine xl_pure rfl rfl rfl (pv_move (v := .pointer _) rfl rfl) ?_
  refine xl_heavy rfl rfl rfl (hv_call (g := 12) rfl rfl (c12n) rfl) ?_
  rintro v5_1 H5_1 ⟨b5_1, rfl, hN5_1⟩
  have gb5_1 := hX.fresh hN5_1
  have nm0_0_5_1 := m0_0.apart hN5_1
  have nm4_7_5_1 := m4_7.apart hN5_1
  have m0_0 := m0_0.ext hN5_1.ext
  have m4_7 := m4_7.ext hN5_1.ext
  have hX := hX.trans hN5_1.ext
  have m5_1 := hN5_1.blk
  refine xl_pure rfl rfl rfl (pv_assign (v := .pointer _) rfl rfl) ?_
  refine xl_nil ?_
  refine xthen_normal ?_
  refine xc_seq ?_
  refine xc_region ?_
  refine xl_pure rfl rfl rfl (pv_move (v := .pointer _) rfl rfl) ?_
  refine xl_light rfl rfl rfl (lv_load (v := .agg _) rfl rfl (ld_blk_a m0_0 rfl rfl)) ?_
  refine xl_pure rfl rfl rfl (pv_move (v := .int _ _) rfl rfl) ?_
  refine xl_heavy rfl rfl rfl (hv_call (g := 16) rfl rfl (c16n [x0, x1, x2, x3] rfl n) rfl) ?_
  rintro v6_3 H6_3 ⟨rfl, hE6_3⟩
  have m0_0 := m0_0.ext hE6_3
  have m4_7 := m4_7.ext hE6_3
  have m5_1 := m5_1.ext hE6_3
  have hX := hX.trans hE6_3
  refine xl_pure rfl rfl rfl (pv_not rfl rfl) ?_
  refine xl_pure rfl rfl rfl (pv_move (v := .bool _) rfl rfl) ?_
  refine xl_pure rfl rfl rfl (pv_move (v := .int _ _) rfl rfl) ?_
  refine xl_dec rfl rfl rfl (pv_eql rfl rfl rfl) (fun h6_7 => ?_) (fun h6_7 => ?_)
  · skip
    refine xl_pure rfl rfl rfl (pv_pick_t (v := .bool _) rfl rfl rfl) ?_
    refine xl_pure rfl rfl rfl (pv_move (v := .bool _) rfl rfl) ?_
    refine xl_pure rfl rfl rfl (pv_move (v := .bool _) rfl rfl) ?_
    refine xl_pure rfl rfl rfl (pv_not rfl rfl) ?_
    refine xl_pure rfl rfl rfl (pv_pick_t (v := .bool _) rfl rfl rfl) ?_
    refine xl_pure rfl rfl rfl (pv_move (v := .bool _) rfl rfl) ?_
    refine xl_pure rfl rfl rfl (pv_move (v := .int _ _) rfl rfl) ?_
    refine xl_dec rfl rfl rfl (pv_eql rfl rfl rfl) (fun h6_15 => ?_) (fun h6_15 => ?_)
    · skip
      refine xl_pure rfl rfl rfl (pv_pick_t (v := .bool _) rfl rfl rfl) ?_
      refine xl_pure rfl rfl rfl (pv_move (v := .bool _) rfl rfl) ?_
      refine xl_pure rfl rfl rfl (pv_move (v := .bool _) rfl rfl) ?_
      refine xl_pure rfl rfl rfl (pv_not rfl rfl) ?_
      refine xl_pure rfl rfl rfl (pv_pick_t (v := .bool _) rfl rfl rfl) ?_
      refine xl_pure rfl rfl rfl (pv_move (v := .bool _) rfl rfl) ?_
      refine xl_pure rfl rfl rfl (pv_move (v := .bool _) rfl rfl) ?_
      refine xl_pure rfl rfl rfl (pv_not rfl rfl) ?_
      refine xl_pure rfl rfl rfl (pv_pick_t (v := .bool _) rfl rfl rfl) ?_
      refine xl_pure rfl rfl rfl (pv_move (v := .bool _) rfl rfl) ?_
      refine xl_pure rfl rfl rfl (pv_move (v := .pointer _) rfl rfl) ?_
      refine xl_light rfl rfl rfl (lv_load (v := .agg _) rfl rfl (ld_blk_a m0_0 rfl rfl)) ?_
      refine xl_heavy rfl rfl rfl (hv_call (g := 15) rfl rfl (c15n [x0, x1, x2, x3] rfl) rfl) ?_
      rintro v6_28 H6_28 ⟨rfl, hE6_28⟩
      have m0_0 := m0_0.ext hE6_28
      have m4_7 := m4_7.ext hE6_28
      have m5_1 := m5_1.ext hE6_28
      have hX := hX.trans hE6_28
      refine xl_pure rfl rfl rfl (pv_not rfl rfl) ?_
      refine xl_pure rfl rfl rfl (pv_pick_t (v := .bool _) rfl rfl rfl) ?_
      refine xl_pure rfl rfl rfl (pv_move (v := .bool _) rfl rfl) ?_
      refine xl_pure rfl rfl rfl (pv_move (v := .pointer _) rfl rfl) ?_
      refine xl_heavy rfl rfl rfl (hv_call (g := 18) rfl rfl (c18n) rfl) ?_
      rintro v6_33 H6_33 ⟨rfl, rfl⟩
      refine xl_dec rfl rfl rfl (pv_eql rfl rfl rfl) (fun h6_34 => ?_) (fun h6_34 => ?_)
      · skip
        refine xl_pure rfl rfl rfl (pv_pick_t (v := .bool _) rfl rfl rfl) ?_
        refine xl_pure rfl rfl rfl (pv_move (v := .bool _) rfl rfl) ?_
        refine xl_pure rfl rfl rfl (pv_move (v := .pointer _) rfl rfl) ?_
        refine xl_heavy rfl rfl rfl (hv_call (g := 20) rfl rfl (c20n) rfl) ?_
        rintro v6_38 H6_38 ⟨rfl, hE6_38⟩
        have m0_0 := m0_0.ext hE6_38
        have m4_7 := m4_7.ext hE6_38
        have m5_1 := m5_1.ext hE6_38
        have hX := hX.trans hE6_38
        refine xl_pure rfl rfl rfl (pv_len_l rfl rfl) ?_
        refine xl_dec rfl rfl rfl (pv_eql rfl rfl rfl) (fun h6_40 => ?_) (fun h6_40 => ?_)
        · skip
          refine xl_pure rfl rfl rfl (pv_pick_t (v := .bool _) rfl rfl rfl) ?_
          refine xl_pure rfl rfl rfl (pv_move (v := .bool _) rfl rfl) ?_
          refine xl_pure rfl rfl rfl (pv_move (v := .pointer _) rfl rfl) ?_
          refine xl_heavy rfl rfl rfl (hv_call (g := 14) rfl rfl (c14n) rfl) ?_
          rintro v6_44 H6_44 ⟨rfl, hE6_44⟩
          have m0_0 := m0_0.ext hE6_44
          have m4_7 := m4_7.ext hE6_44
          have m5_1 := m5_1.ext hE6_44
          have hX := hX.trans hE6_44
          refine xl_pure rfl rfl rfl (pv_len_l rfl rfl) ?_
          refine xl_dec rfl rfl rfl (pv_eql rfl rfl rfl) (fun h6_46 => ?_) (fun h6_46 => ?_)
          · skip
            refine xl_pure rfl rfl rfl (pv_pick_t (v := .bool _) rfl rfl rfl) ?_
            refine xl_pure rfl rfl rfl (pv_move (v := .bool _) rfl rfl) ?_
            refine xl_pure rfl rfl rfl (pv_move (v := .pointer _) rfl rfl) ?_
            refine xl_light rfl rfl rfl (lv_load (v := .agg _) rfl rfl (ld_blk_a m0_0 rfl rfl)) ?_
            refine xl_light rfl rfl rfl (lv_load (v := .agg _) rfl rfl (ld_blk_a m0_0 rfl rfl)) ?_
            refine xl_pure rfl rfl rfl (pv_move (v := .int _ _) rfl rfl) ?_
            refine xl_heavy rfl rfl rfl (hv_call (g := 23) rfl rfl (c23n [x0, x1, x2, x3] [x0, x1, x2, x3] rfl rfl n) rfl) ?_
            rintro v6_53 H6_53 ⟨rfl, hE6_53⟩
            have m0_0 := m0_0.ext hE6_53
            have m4_7 := m4_7.ext hE6_53
            have m5_1 := m5_1.ext hE6_53
            have hX := hX.trans hE6_53
            refine xl_pure rfl rfl rfl (pv_len_l rfl rfl) ?_
            refine xl_dec rfl rfl rfl (pv_eql rfl rfl rfl) (fun h6_55 => ?_) (fun h6_55 => ?_)
            · skip
              refine xl_pure rfl rfl rfl (pv_pick_t (v := .bool _) rfl rfl rfl) ?_
              refine xl_pure rfl rfl rfl (pv_move (v := .bool _) rfl rfl) ?_
              refine xl_pure rfl rfl rfl (pv_move (v := .pointer _) rfl rfl) ?_
              refine xl_pure rfl rfl rfl (pv_neq_pn rfl rfl rfl) ?_
              refine xl_pure rfl rfl rfl (pv_pick_t (v := .bool _) rfl rfl rfl) ?_
              refine xl_pure rfl rfl rfl (pv_move (v := .bool _) rfl rfl) ?_
              refine xl_pure rfl rfl rfl (pv_move (v := .pointer _) rfl rfl) ?_
              refine xl_heavy rfl rfl rfl (hv_call (g := 18) rfl rfl (c18 m5_1) rfl) ?_
              rintro v6_63 H6_63 ⟨rfl, rfl⟩
              refine xl_dec rfl rfl rfl (pv_eql rfl rfl rfl) (fun h6_64 => ?_) (fun h6_64 => ?_)
              · skip
                refine xl_pure rfl rfl rfl (pv_pick_t (v := .bool _) rfl rfl rfl) ?_
                refine xl_pure rfl rfl rfl (pv_move (v := .bool _) rfl rfl) ?_
                refine xl_pure rfl rfl rfl (pv_move (v := .pointer _) rfl rfl) ?_
                refine xl_light rfl rfl rfl (lv_load (v := .agg _) rfl rfl (ld_blk_a m0_0 rfl rfl)) ?_
                refine xl_pure rfl rfl rfl (pv_move (v := .int _ _) rfl rfl) ?_
                refine xl_heavy rfl rfl rfl (hv_call (g := 16) rfl rfl (c16 m5_1 RowsT.nil (rfl : Nat.beq 32 69 = false) (by unfold Srt; decide) (Nat.le_refl _) (fun _ => rfl) (by decide) [x0, x1, x2, x3] rfl n) rfl) ?_
                rintro v6_70 H6_70 ⟨a6_70, c6_70, rfl, hU6_70, hR6_70, hc6_70, hna6_70⟩
                have m0_0 := m0_0.off hU6_70.but (by first | exact nm0_0_5_1 | exact ⟨m0_0.ne m5_1 rfl⟩ | exact ⟨m0_0.ne m5_1 (by assumption)⟩ | exact ⟨Ne.symm (m5_1.ne m0_0 (by assumption))⟩)
                have m4_7 := m4_7.off hU6_70.but (by first | exact nm4_7_5_1 | exact ⟨m4_7.ne m5_1 rfl⟩ | exact ⟨m4_7.ne m5_1 (by assumption)⟩ | exact ⟨Ne.symm (m5_1.ne m4_7 (by assumption))⟩)
                have hX := hX.upd hU6_70.but gb5_1
                have m5_1 := hU6_70.blk
                refine xl_pure rfl rfl rfl (pv_pick_t (v := .bool _) rfl rfl rfl) ?_
                refine xl_pure rfl rfl rfl (pv_move (v := .bool _) rfl rfl) ?_
                refine xl_pure rfl rfl rfl (pv_move (v := .pointer _) rfl rfl) ?_
                refine xl_heavy rfl rfl rfl (hv_call (g := 18) rfl rfl (c18 m5_1) rfl) ?_
                rintro v6_74 H6_74 ⟨rfl, rfl⟩
                refine xl_dec rfl rfl rfl (pv_eql rfl rfl rfl) (fun h6_75 => ?_) (fun h6_75 => ?_)
                · skip
                  refine xl_pure rfl rfl rfl (pv_pick_t (v := .bool _) rfl rfl rfl) ?_
                  refine xl_pure rfl rfl rfl (pv_move (v := .bool _) rfl rfl) ?_
                  refine xl_heavy rfl rfl rfl (hv_call (g := 10) rfl rfl (c10) rfl) ?_
                  rintro v6_78 H6_78 ⟨rfl, hE6_78⟩
                  have m0_0 := m0_0.ext hE6_78
                  have m4_7 := m4_7.ext hE6_78
                  have m5_1 := m5_1.ext hE6_78
                  have hR6_70 := hR6_70.ext hE6_78
                  have hX := hX.trans hE6_78
                  refine xl_pure rfl rfl rfl (pv_pick_t (v := .bool _) rfl rfl rfl) ?_
                  refine xl_pure rfl rfl rfl (pv_assign (v := .bool _) rfl rfl) ?_
                  refine xl_nil ?_
                  refine xthen_normal ?_
                  refine xc_ret ?_
                  refine fin_ret (res1 (v := .bool _) rfl rfl) ?_
                  exact ⟨rfl, hX⟩
                · exact absurd rfl h6_75
              · exact absurd rfl h6_64
            · exact absurd rfl h6_55
          · exact absurd rfl h6_46
        · exact absurd rfl h6_40
      · exact absurd rfl h6_34
    · exact absurd rfl h6_15
  · exact absurd rfl h6_7
end Go.XG
