/-
  Walks of the seat's functions over the logic XG: each function, what it computes. Printed by a program out of wip/walks.py.
-/
import Derived.Test.YthobcnpdognbfaaI
import Derived.Test.YthobcnpdognbfaaM
import Derived.Test.YthobcnpdognbfaaWa
import Derived.Test.YthobcnpdognbfaaWb
import Derived.Test.YthobcnpdognbfaaWc
import Derived.Test.YthobcnpdognbfaaWd
import Derived.Test.YthobcnpdognbfaaWe
import Derived.Test.YthobcnpdognbfaaWf
import Derived.Test.YthobcnpdognbfaaWg
namespace Go.XG
open Go.Proofs
set_option maxRecDepth 4000
set_option maxHeartbeats 4000000
theorem c9 {O : Outer} {H : Heap} {bp B : Nat} {X : List (List (List Int))} (hg : GAt H bp B X) (hG : GOk X) (hB : B ≤ H.size) (r : List Int) (hr : r.length = 4) :
    FnC Try.prog 9 #[.pointer (some ⟨bp, 0, none⟩), .agg (ints r).toArray] O H (fun v H' => v = .tuple #[.int .i64 (actN X r), .int .i64 (actE X r)] ∧ GAt H' bp B (actX X r) ∧ KeepF (GF H bp B) H H') := by
  refine fn_enter (A := [.pointer (some ⟨bp, 0, none⟩), .agg (ints r).toArray]) Try.func9 rfl rfl ?_
  have hX := Ext.refl H
  refine xc_seq ?_
  refine xc_region ?_
  refine xl_heavy rfl rfl rfl (hv_box rfl rfl) ?_
  rintro v0_0 H0_0 ⟨b0_0, rfl, hN0_0⟩
  have gb0_0 := hX.fresh hN0_0
  have hX := hX.trans hN0_0.ext
  have m0_0 := hN0_0.blk
  refine xl_pure rfl rfl rfl (pv_assign (v := .int _ _) rfl rfl) ?_
  refine xl_pure rfl rfl rfl (pv_assign (v := .int _ _) rfl rfl) ?_
  refine xl_nil ?_
  refine xthen_normal ?_
  refine xc_seq ?_
  refine xc_seq ?_
  refine xc_region ?_
  refine xl_pure rfl rfl rfl (pv_fieldAddr rfl rfl) ?_
  refine xl_light rfl rfl rfl (lv_load (v := .int _ _) rfl rfl (by exact ld_get (i := 0) m0_0 (by omega))) ?_
  refine xl_nil ?_
  refine xthen_normal ?_
  refine xc_block ?_
  refine xc_seq ?_
  refine xc_region ?_
  refine xl_dec rfl rfl rfl (pv_eql rfl rfl rfl) (fun h2_0 => ?_) (fun h2_0 => ?_)
  · skip
    refine xl_pure rfl rfl rfl (pv_assign (v := .bool _) rfl rfl) ?_
    refine xl_nil ?_
    refine xthen_normal ?_
    refine xc_cond_t rfl ?_
    refine xc_seq ?_
    refine xc_region ?_
    refine xl_pure rfl rfl rfl (pv_move (v := .pointer _) rfl rfl) ?_
    refine xl_pure rfl rfl rfl (pv_fieldAddr rfl rfl) ?_
    refine xl_light rfl rfl rfl (lv_load (v := .int _ _) rfl rfl (by exact ld_get (i := 2) m0_0 (by omega))) ?_
    refine xl_heavy rfl rfl rfl (hv_call (g := 21) rfl rfl (gFoundG (hg.ext hX) hG (Nat.le_trans hB hX.size) (r.getD 2 0)) rfl) ?_
    rintro v3_3 H3_3 ⟨rfl, hg3_3, hK3_3⟩
    have hK := ext_keepGF hX hK3_3
    refine xl_pure rfl rfl rfl (pv_extract (v := .int _ _) rfl rfl rfl) ?_
    refine xl_pure rfl rfl rfl (pv_extract (v := .int _ _) rfl rfl rfl) ?_
    refine xl_pure rfl rfl rfl (pv_assign (v := .int _ _) rfl rfl) ?_
    refine xl_pure rfl rfl rfl (pv_assign (v := .int _ _) rfl rfl) ?_
    refine xl_nil ?_
    refine xthen_normal ?_
    refine xc_ret ?_
    refine xblock_ret ?_
    refine xthen_ret ?_
    refine fin_ret (res2 (v := .int _ _) (x := .int _ _) rfl rfl rfl) ?_
    obtain ⟨e1, e2, e3⟩ := act1 (X := X) h2_0
    exact ⟨by rw [e1, e2], by rw [e3]; exact hg3_3, hK⟩
  · skip
    refine xl_pure rfl rfl rfl (pv_assign (v := .bool _) rfl rfl) ?_
    refine xl_nil ?_
    refine xthen_normal ?_
    refine xc_cond_f rfl ?_
    refine xc_seq ?_
    refine xc_region ?_
    refine xl_dec rfl rfl rfl (pv_eql rfl rfl rfl) (fun h4_0 => ?_) (fun h4_0 => ?_)
    · skip
      refine xl_pure rfl rfl rfl (pv_assign (v := .bool _) rfl rfl) ?_
      refine xl_nil ?_
      refine xthen_normal ?_
      refine xc_cond_t rfl ?_
      refine xc_seq ?_
      refine xc_region ?_
      refine xl_pure rfl rfl rfl (pv_move (v := .pointer _) rfl rfl) ?_
      refine xl_pure rfl rfl rfl (pv_fieldAddr rfl rfl) ?_
      refine xl_light rfl rfl rfl (lv_load (v := .int _ _) rfl rfl (by exact ld_get (i := 1) m0_0 (by omega))) ?_
      refine xl_pure rfl rfl rfl (pv_fieldAddr rfl rfl) ?_
      refine xl_light rfl rfl rfl (lv_load (v := .int _ _) rfl rfl (by exact ld_get (i := 2) m0_0 (by omega))) ?_
      refine xl_pure rfl rfl rfl (pv_fieldAddr rfl rfl) ?_
      refine xl_light rfl rfl rfl (lv_load (v := .int _ _) rfl rfl (by exact ld_get (i := 3) m0_0 (by omega))) ?_
      refine xl_heavy rfl rfl rfl (hv_call (g := 22) rfl rfl (gEnrolG (hg.ext hX) hG (r.getD 1 0) (r.getD 2 0) (r.getD 3 0)) rfl) ?_
      rintro v5_7 H5_7 ⟨rfl, hg5_7, hK5_7⟩
      have hK := ext_keepGF hX hK5_7
      refine xl_pure rfl rfl rfl (pv_assign (v := .int _ _) rfl rfl) ?_
      refine xl_pure rfl rfl rfl (pv_assign (v := .int _ _) rfl rfl) ?_
      refine xl_nil ?_
      refine xthen_normal ?_
      refine xc_ret ?_
      refine xblock_ret ?_
      refine xthen_ret ?_
      refine fin_ret (res2 (v := .int _ _) (x := .int _ _) rfl rfl rfl) ?_
      obtain ⟨e1, e2, e3⟩ := act2 (X := X) h2_0 h4_0
      exact ⟨by rw [e1, e2], by rw [e3]; exact hg5_7, hK⟩
    · skip
      refine xl_pure rfl rfl rfl (pv_assign (v := .bool _) rfl rfl) ?_
      refine xl_nil ?_
      refine xthen_normal ?_
      refine xc_cond_f rfl ?_
      refine xc_seq ?_
      refine xc_region ?_
      refine xl_dec rfl rfl rfl (pv_eql rfl rfl rfl) (fun h6_0 => ?_) (fun h6_0 => ?_)
      · skip
        refine xl_pure rfl rfl rfl (pv_assign (v := .bool _) rfl rfl) ?_
        refine xl_nil ?_
        refine xthen_normal ?_
        refine xc_cond_t rfl ?_
        refine xc_seq ?_
        refine xc_region ?_
        refine xl_pure rfl rfl rfl (pv_move (v := .pointer _) rfl rfl) ?_
        refine xl_pure rfl rfl rfl (pv_fieldAddr rfl rfl) ?_
        refine xl_light rfl rfl rfl (lv_load (v := .int _ _) rfl rfl (by exact ld_get (i := 1) m0_0 (by omega))) ?_
        refine xl_pure rfl rfl rfl (pv_fieldAddr rfl rfl) ?_
        refine xl_light rfl rfl rfl (lv_load (v := .int _ _) rfl rfl (by exact ld_get (i := 2) m0_0 (by omega))) ?_
        refine xl_heavy rfl rfl rfl (hv_call (g := 23) rfl rfl (gExpelG (hg.ext hX) hG (r.getD 1 0) (r.getD 2 0)) rfl) ?_
        rintro v7_5 H7_5 ⟨rfl, hg7_5, hK7_5⟩
        have hK := ext_keepGF hX hK7_5
        refine xl_pure rfl rfl rfl (pv_assign (v := .int _ _) rfl rfl) ?_
        refine xl_pure rfl rfl rfl (pv_assign (v := .int _ _) rfl rfl) ?_
        refine xl_nil ?_
        refine xthen_normal ?_
        refine xc_ret ?_
        refine xblock_ret ?_
        refine xthen_ret ?_
        refine fin_ret (res2 (v := .int _ _) (x := .int _ _) rfl rfl rfl) ?_
        obtain ⟨e1, e2, e3⟩ := act3 (X := X) h2_0 h4_0 h6_0
        exact ⟨by rw [e1, e2], by rw [e3]; exact hg7_5, hK⟩
      · skip
        refine xl_pure rfl rfl rfl (pv_assign (v := .bool _) rfl rfl) ?_
        refine xl_nil ?_
        refine xthen_normal ?_
        refine xc_cond_f rfl ?_
        refine xc_skip ?_
        refine xblock_normal ?_
        refine xthen_normal ?_
        refine xc_seq ?_
        refine xc_region ?_
        refine xl_pure rfl rfl rfl (pv_move (v := .pointer _) rfl rfl) ?_
        refine xl_pure rfl rfl rfl (pv_fieldAddr rfl rfl) ?_
        refine xl_light rfl rfl rfl (lv_load (v := .int _ _) rfl rfl (by exact ld_get (i := 1) m0_0 (by omega))) ?_
        refine xl_pure rfl rfl rfl (pv_fieldAddr rfl rfl) ?_
        refine xl_light rfl rfl rfl (lv_load (v := .int _ _) rfl rfl (by exact ld_get (i := 2) m0_0 (by omega))) ?_
        refine xl_heavy rfl rfl rfl (hv_call (g := 24) rfl rfl (gRolesG (hg.ext hX) hG (r.getD 1 0) (r.getD 2 0)) rfl) ?_
        rintro v8_5 H8_5 ⟨rfl, hE8_5⟩
        have m0_0 := m0_0.ext hE8_5
        have hX := hX.trans hE8_5
        refine xl_pure rfl rfl rfl (pv_extract (v := .int _ _) rfl rfl rfl) ?_
        refine xl_pure rfl rfl rfl (pv_extract (v := .int _ _) rfl rfl rfl) ?_
        refine xl_pure rfl rfl rfl (pv_assign (v := .int _ _) rfl rfl) ?_
        refine xl_pure rfl rfl rfl (pv_assign (v := .int _ _) rfl rfl) ?_
        refine xl_nil ?_
        refine xthen_normal ?_
        refine xc_ret ?_
        refine fin_ret (res2 (v := .int _ _) (x := .int _ _) rfl rfl rfl) ?_
        obtain ⟨e1, e2, e3⟩ := act4 (X := X) h2_0 h4_0 h6_0
        exact ⟨by rw [e1, e2], by rw [e3]; exact hg.ext hX, ext_keepGF hX (KeepF.refl _ _)⟩

theorem c9n {O : Outer} {H : Heap} (r : List Int) (hr : r.length = 4) :
    FnC Try.prog 9 #[.pointer none, .agg (ints r).toArray] O H (fun v H' => v = .tuple #[.int .i64 0, .int .i64 1] ∧ Ext H H') := by
  refine fn_enter (A := [.pointer none, .agg (ints r).toArray]) Try.func9 rfl rfl ?_
  have hX := Ext.refl H
  refine xc_seq ?_
  refine xc_region ?_
  refine xl_heavy rfl rfl rfl (hv_box rfl rfl) ?_
  rintro v0_0 H0_0 ⟨b0_0, rfl, hN0_0⟩
  have gb0_0 := hX.fresh hN0_0
  have hX := hX.trans hN0_0.ext
  have m0_0 := hN0_0.blk
  refine xl_pure rfl rfl rfl (pv_assign (v := .int _ _) rfl rfl) ?_
  refine xl_pure rfl rfl rfl (pv_assign (v := .int _ _) rfl rfl) ?_
  refine xl_nil ?_
  refine xthen_normal ?_
  refine xc_seq ?_
  refine xc_seq ?_
  refine xc_region ?_
  refine xl_pure rfl rfl rfl (pv_fieldAddr rfl rfl) ?_
  refine xl_light rfl rfl rfl (lv_load (v := .int _ _) rfl rfl (by exact ld_get (i := 0) m0_0 (by omega))) ?_
  refine xl_nil ?_
  refine xthen_normal ?_
  refine xc_block ?_
  refine xc_seq ?_
  refine xc_region ?_
  refine xl_dec rfl rfl rfl (pv_eql rfl rfl rfl) (fun h2_0 => ?_) (fun h2_0 => ?_)
  · skip
    refine xl_pure rfl rfl rfl (pv_assign (v := .bool _) rfl rfl) ?_
    refine xl_nil ?_
    refine xthen_normal ?_
    refine xc_cond_t rfl ?_
    refine xc_seq ?_
    refine xc_region ?_
    refine xl_pure rfl rfl rfl (pv_move (v := .pointer _) rfl rfl) ?_
    refine xl_pure rfl rfl rfl (pv_fieldAddr rfl rfl) ?_
    refine xl_light rfl rfl rfl (lv_load (v := .int _ _) rfl rfl (by exact ld_get (i := 2) m0_0 (by omega))) ?_
    refine xl_heavy rfl rfl rfl (hv_call (g := 21) rfl rfl (gFoundn _) rfl) ?_
    rintro v3_3 H3_3 ⟨rfl, hE3_3⟩
    have m0_0 := m0_0.ext hE3_3
    have hX := hX.trans hE3_3
    refine xl_pure rfl rfl rfl (pv_extract (v := .int _ _) rfl rfl rfl) ?_
    refine xl_pure rfl rfl rfl (pv_extract (v := .int _ _) rfl rfl rfl) ?_
    refine xl_pure rfl rfl rfl (pv_assign (v := .int _ _) rfl rfl) ?_
    refine xl_pure rfl rfl rfl (pv_assign (v := .int _ _) rfl rfl) ?_
    refine xl_nil ?_
    refine xthen_normal ?_
    refine xc_ret ?_
    refine xblock_ret ?_
    refine xthen_ret ?_
    refine fin_ret (res2 (v := .int _ _) (x := .int _ _) rfl rfl rfl) ?_
    exact ⟨rfl, hX⟩
  · skip
    refine xl_pure rfl rfl rfl (pv_assign (v := .bool _) rfl rfl) ?_
    refine xl_nil ?_
    refine xthen_normal ?_
    refine xc_cond_f rfl ?_
    refine xc_seq ?_
    refine xc_region ?_
    refine xl_dec rfl rfl rfl (pv_eql rfl rfl rfl) (fun h4_0 => ?_) (fun h4_0 => ?_)
    · skip
      refine xl_pure rfl rfl rfl (pv_assign (v := .bool _) rfl rfl) ?_
      refine xl_nil ?_
      refine xthen_normal ?_
      refine xc_cond_t rfl ?_
      refine xc_seq ?_
      refine xc_region ?_
      refine xl_pure rfl rfl rfl (pv_move (v := .pointer _) rfl rfl) ?_
      refine xl_pure rfl rfl rfl (pv_fieldAddr rfl rfl) ?_
      refine xl_light rfl rfl rfl (lv_load (v := .int _ _) rfl rfl (by exact ld_get (i := 1) m0_0 (by omega))) ?_
      refine xl_pure rfl rfl rfl (pv_fieldAddr rfl rfl) ?_
      refine xl_light rfl rfl rfl (lv_load (v := .int _ _) rfl rfl (by exact ld_get (i := 2) m0_0 (by omega))) ?_
      refine xl_pure rfl rfl rfl (pv_fieldAddr rfl rfl) ?_
      refine xl_light rfl rfl rfl (lv_load (v := .int _ _) rfl rfl (by exact ld_get (i := 3) m0_0 (by omega))) ?_
      refine xl_heavy rfl rfl rfl (hv_call (g := 22) rfl rfl (gEnroln _ _ _) rfl) ?_
      rintro v5_7 H5_7 ⟨rfl, hE5_7⟩
      have m0_0 := m0_0.ext hE5_7
      have hX := hX.trans hE5_7
      refine xl_pure rfl rfl rfl (pv_assign (v := .int _ _) rfl rfl) ?_
      refine xl_pure rfl rfl rfl (pv_assign (v := .int _ _) rfl rfl) ?_
      refine xl_nil ?_
      refine xthen_normal ?_
      refine xc_ret ?_
      refine xblock_ret ?_
      refine xthen_ret ?_
      refine fin_ret (res2 (v := .int _ _) (x := .int _ _) rfl rfl rfl) ?_
      exact ⟨rfl, hX⟩
    · skip
      refine xl_pure rfl rfl rfl (pv_assign (v := .bool _) rfl rfl) ?_
      refine xl_nil ?_
      refine xthen_normal ?_
      refine xc_cond_f rfl ?_
      refine xc_seq ?_
      refine xc_region ?_
      refine xl_dec rfl rfl rfl (pv_eql rfl rfl rfl) (fun h6_0 => ?_) (fun h6_0 => ?_)
      · skip
        refine xl_pure rfl rfl rfl (pv_assign (v := .bool _) rfl rfl) ?_
        refine xl_nil ?_
        refine xthen_normal ?_
        refine xc_cond_t rfl ?_
        refine xc_seq ?_
        refine xc_region ?_
        refine xl_pure rfl rfl rfl (pv_move (v := .pointer _) rfl rfl) ?_
        refine xl_pure rfl rfl rfl (pv_fieldAddr rfl rfl) ?_
        refine xl_light rfl rfl rfl (lv_load (v := .int _ _) rfl rfl (by exact ld_get (i := 1) m0_0 (by omega))) ?_
        refine xl_pure rfl rfl rfl (pv_fieldAddr rfl rfl) ?_
        refine xl_light rfl rfl rfl (lv_load (v := .int _ _) rfl rfl (by exact ld_get (i := 2) m0_0 (by omega))) ?_
        refine xl_heavy rfl rfl rfl (hv_call (g := 23) rfl rfl (gExpeln _ _) rfl) ?_
        rintro v7_5 H7_5 ⟨rfl, hE7_5⟩
        have m0_0 := m0_0.ext hE7_5
        have hX := hX.trans hE7_5
        refine xl_pure rfl rfl rfl (pv_assign (v := .int _ _) rfl rfl) ?_
        refine xl_pure rfl rfl rfl (pv_assign (v := .int _ _) rfl rfl) ?_
        refine xl_nil ?_
        refine xthen_normal ?_
        refine xc_ret ?_
        refine xblock_ret ?_
        refine xthen_ret ?_
        refine fin_ret (res2 (v := .int _ _) (x := .int _ _) rfl rfl rfl) ?_
        exact ⟨rfl, hX⟩
      · skip
        refine xl_pure rfl rfl rfl (pv_assign (v := .bool _) rfl rfl) ?_
        refine xl_nil ?_
        refine xthen_normal ?_
        refine xc_cond_f rfl ?_
        refine xc_skip ?_
        refine xblock_normal ?_
        refine xthen_normal ?_
        refine xc_seq ?_
        refine xc_region ?_
        refine xl_pure rfl rfl rfl (pv_move (v := .pointer _) rfl rfl) ?_
        refine xl_pure rfl rfl rfl (pv_fieldAddr rfl rfl) ?_
        refine xl_light rfl rfl rfl (lv_load (v := .int _ _) rfl rfl (by exact ld_get (i := 1) m0_0 (by omega))) ?_
        refine xl_pure rfl rfl rfl (pv_fieldAddr rfl rfl) ?_
        refine xl_light rfl rfl rfl (lv_load (v := .int _ _) rfl rfl (by exact ld_get (i := 2) m0_0 (by omega))) ?_
        refine xl_heavy rfl rfl rfl (hv_call (g := 24) rfl rfl (gRolesn _ _) rfl) ?_
        rintro v8_5 H8_5 ⟨rfl, hE8_5⟩
        have m0_0 := m0_0.ext hE8_5
        have hX := hX.trans hE8_5
        refine xl_pure rfl rfl rfl (pv_extract (v := .int _ _) rfl rfl rfl) ?_
        refine xl_pure rfl rfl rfl (pv_extract (v := .int _ _) rfl rfl rfl) ?_
        refine xl_pure rfl rfl rfl (pv_assign (v := .int _ _) rfl rfl) ?_
        refine xl_pure rfl rfl rfl (pv_assign (v := .int _ _) rfl rfl) ?_
        refine xl_nil ?_
        refine xthen_normal ?_
        refine xc_ret ?_
        refine fin_ret (res2 (v := .int _ _) (x := .int _ _) rfl rfl rfl) ?_
        exact ⟨rfl, hX⟩

theorem c6 {O : Outer} {H : Heap}  :
    FnC Try.prog 6 #[] O H (fun v H' => v = .bool true ∧ Ext H H') := by
  refine fn_enter (A := []) Try.func6 rfl rfl ?_
  have hX := Ext.refl H
  refine xc_seq ?_
  refine xc_region ?_
  refine xl_pure rfl rfl rfl (pv_assign (v := .bool _) rfl rfl) ?_
  refine xl_nil ?_
  refine xthen_normal ?_
  refine xc_seq ?_
  refine xc_region ?_
  refine xl_pure rfl rfl rfl (pv_build_s (cs := [.slice _ _ _]) rfl rfl rfl) ?_
  refine xl_heavy rfl rfl rfl (hv_box rfl rfl) ?_
  rintro v1_1 H1_1 ⟨b1_1, rfl, hN1_1⟩
  have gb1_1 := hX.fresh hN1_1
  have hX := hX.trans hN1_1.ext
  have m1_1 := hN1_1.blk
  refine xl_pure rfl rfl rfl (pv_assign (v := .pointer _) rfl rfl) ?_
  refine xl_nil ?_
  refine xthen_normal ?_
  refine xc_seq ?_
  have hg0 : GAt _ b1_1 H.size [] := ⟨none, 0, [], m1_1, Own.nil _ _ _ _, Mems.nil⟩
  have ok2 : GOk [[[3, 1]]] := by have h := gok_fou (c := 3) gok_nil; rw [show fouX [] 3 = [[[3, 1]]] by decide] at h; exact h
  have ok3 : GOk [[[1, 6], [3, 1]]] := by have h := gok_enr (id := 101) (c := 1) (r := 6) ok2; rw [show enrX [[[3, 1]]] 101 1 6 = [[[1, 6], [3, 1]]] by decide] at h; exact h
  refine xc_region ?_
  refine xl_pure rfl rfl rfl (pv_move (v := .pointer _) rfl rfl) ?_
  refine xl_heavy rfl rfl rfl (hv_call (g := 21) rfl rfl (gFoundG hg0 gok_nil hX.size 3) rfl) ?_
  rintro v2_1 H2_1 ⟨hv2_1, hg2_1, hK2_1⟩
  rw [show fouX [] 3 = [[[3, 1]]] by decide] at hg2_1
  rw [show fouN [] 3 = 101 by decide, show fouE [] 3 = 0 by decide] at hv2_1
  subst hv2_1
  have hX := hX.keep hK2_1 (gf_ge gb1_1.le)
  refine xl_pure rfl rfl rfl (pv_move (v := .tuple _) rfl rfl) ?_
  refine xl_pure rfl rfl rfl (pv_extract (v := .int _ _) rfl rfl rfl) ?_
  refine xl_pure rfl rfl rfl (pv_extract (v := .int _ _) rfl rfl rfl) ?_
  refine xl_pure rfl rfl rfl (pv_assign (v := .int _ _) rfl rfl) ?_
  refine xl_pure rfl rfl rfl (pv_assign (v := .int _ _) rfl rfl) ?_
  refine xl_nil ?_
  refine xthen_normal ?_
  refine xc_seq ?_
  refine xc_region ?_
  refine xl_pure rfl rfl rfl (pv_move (v := .pointer _) rfl rfl) ?_
  refine xl_pure rfl rfl rfl (pv_move (v := .int _ _) rfl rfl) ?_
  refine xl_heavy rfl rfl rfl (hv_call (g := 22) rfl rfl (gEnrolG hg2_1 ok2 101 1 6) rfl) ?_
  rintro v3_2 H3_2 ⟨hv3_2, hg3_2, hK3_2⟩
  rw [show enrX [[[3, 1]]] 101 1 6 = [[[1, 6], [3, 1]]] by decide] at hg3_2
  rw [show enrE [[[3, 1]]] 101 1 6 = 0 by decide] at hv3_2
  subst hv3_2
  have hX := hX.keep hK3_2 (gf_ge gb1_1.le)
  refine xl_pure rfl rfl rfl (pv_assign (v := .int _ _) rfl rfl) ?_
  refine xl_nil ?_
  refine xthen_normal ?_
  refine xc_seq ?_
  refine xc_region ?_
  refine xl_pure rfl rfl rfl (pv_move (v := .pointer _) rfl rfl) ?_
  refine xl_pure rfl rfl rfl (pv_move (v := .int _ _) rfl rfl) ?_
  refine xl_heavy rfl rfl rfl (hv_call (g := 23) rfl rfl (gExpelG hg3_2 ok3 101 3) rfl) ?_
  rintro v4_2 H4_2 ⟨hv4_2, hg4_2, hK4_2⟩
  rw [show expX [[[1, 6], [3, 1]]] 101 3 = [[[1, 6], [3, 1]]] by decide] at hg4_2
  rw [show expE [[[1, 6], [3, 1]]] 101 3 = 9 by decide] at hv4_2
  subst hv4_2
  have hX := hX.keep hK4_2 (gf_ge gb1_1.le)
  refine xl_pure rfl rfl rfl (pv_assign (v := .int _ _) rfl rfl) ?_
  refine xl_nil ?_
  refine xthen_normal ?_
  refine xc_seq ?_
  refine xc_region ?_
  refine xl_pure rfl rfl rfl (pv_move (v := .pointer _) rfl rfl) ?_
  refine xl_heavy rfl rfl rfl (hv_call (g := 24) rfl rfl (gRolesG hg4_2 ok3 101 1) rfl) ?_
  rintro v5_1 H5_1 ⟨hv5_1, hE5_1⟩
  have hX := hX.trans hE5_1
  rw [show rolN [[[1, 6], [3, 1]]] 101 1 = 6 by decide, show rolE [[[1, 6], [3, 1]]] 101 1 = 0 by decide] at hv5_1
  subst hv5_1
  have hg5 := hg4_2.ext hE5_1
  refine xl_pure rfl rfl rfl (pv_move (v := .tuple _) rfl rfl) ?_
  refine xl_pure rfl rfl rfl (pv_extract (v := .int _ _) rfl rfl rfl) ?_
  refine xl_pure rfl rfl rfl (pv_extract (v := .int _ _) rfl rfl rfl) ?_
  refine xl_pure rfl rfl rfl (pv_assign (v := .int _ _) rfl rfl) ?_
  refine xl_pure rfl rfl rfl (pv_assign (v := .int _ _) rfl rfl) ?_
  refine xl_nil ?_
  refine xthen_normal ?_
  refine xc_seq ?_
  refine xc_region ?_
  refine xl_pure rfl rfl rfl (pv_move (v := .int _ _) rfl rfl) ?_
  refine xl_dec rfl rfl rfl (pv_eql rfl rfl rfl) (fun h6_1 => ?_) (fun h6_1 => ?_)
  · skip
    refine xl_pure rfl rfl rfl (pv_move (v := .bool _) rfl rfl) ?_
    refine xl_pure rfl rfl rfl (pv_move (v := .int _ _) rfl rfl) ?_
    refine xl_dec rfl rfl rfl (pv_eql rfl rfl rfl) (fun h6_4 => ?_) (fun h6_4 => ?_)
    · skip
      refine xl_pure rfl rfl rfl (pv_pick_t (v := .bool _) rfl rfl rfl) ?_
      refine xl_pure rfl rfl rfl (pv_move (v := .bool _) rfl rfl) ?_
      refine xl_pure rfl rfl rfl (pv_move (v := .int _ _) rfl rfl) ?_
      refine xl_dec rfl rfl rfl (pv_eql rfl rfl rfl) (fun h6_8 => ?_) (fun h6_8 => ?_)
      · skip
        refine xl_pure rfl rfl rfl (pv_pick_t (v := .bool _) rfl rfl rfl) ?_
        refine xl_pure rfl rfl rfl (pv_move (v := .bool _) rfl rfl) ?_
        refine xl_pure rfl rfl rfl (pv_move (v := .int _ _) rfl rfl) ?_
        refine xl_dec rfl rfl rfl (pv_eql rfl rfl rfl) (fun h6_12 => ?_) (fun h6_12 => ?_)
        · skip
          refine xl_pure rfl rfl rfl (pv_pick_t (v := .bool _) rfl rfl rfl) ?_
          refine xl_pure rfl rfl rfl (pv_move (v := .bool _) rfl rfl) ?_
          refine xl_pure rfl rfl rfl (pv_move (v := .int _ _) rfl rfl) ?_
          refine xl_dec rfl rfl rfl (pv_eql rfl rfl rfl) (fun h6_16 => ?_) (fun h6_16 => ?_)
          · skip
            refine xl_pure rfl rfl rfl (pv_pick_t (v := .bool _) rfl rfl rfl) ?_
            refine xl_pure rfl rfl rfl (pv_move (v := .bool _) rfl rfl) ?_
            refine xl_pure rfl rfl rfl (pv_move (v := .int _ _) rfl rfl) ?_
            refine xl_dec rfl rfl rfl (pv_eql rfl rfl rfl) (fun h6_20 => ?_) (fun h6_20 => ?_)
            · skip
              refine xl_pure rfl rfl rfl (pv_pick_t (v := .bool _) rfl rfl rfl) ?_
              refine xl_pure rfl rfl rfl (pv_move (v := .bool _) rfl rfl) ?_
              refine xl_pure rfl rfl rfl (pv_move (v := .pointer _) rfl rfl) ?_
              refine xl_heavy rfl rfl rfl (hv_call (g := 12) rfl rfl (gOfG hg5 ok3 1) rfl) ?_
              rintro v6_24 H6_24 ⟨a6_24, c6_24, hv6_24, hI6_24, hE6_24⟩
              have hX := hX.trans hE6_24
              rw [show ofI [[[1, 6], [3, 1]]] 1 (List.length ([[[1, 6], [3, 1]]] : List (List (List Int)))) = [101] by decide] at hv6_24 hI6_24
              subst hv6_24
              have hg6 := hg5.ext hE6_24
              refine xl_heavy rfl rfl rfl (hv_buildSlice (cs := [.int _ _]) rfl rfl rfl rfl rfl) ?_
              rintro v6_25 H6_25 ⟨b6_25, rfl, hN6_25⟩
              have gb6_25 := hX.fresh hN6_25
              have hX := hX.trans hN6_25.ext
              have m6_25 := hN6_25.blk
              refine xl_heavy rfl rfl rfl (hv_call (g := 19) rfl rfl (iSame (l := [101]) (m := [101]) (hI6_24.ext hN6_25.ext) (.inr ⟨_, 0, rfl, m6_25.row⟩) (by decide)) rfl) ?_
              rintro v6_26 H6_26 ⟨r6_26, rfl, hb6_26, rfl⟩
              obtain rfl : r6_26 = true := hb6_26.2 rfl
              refine xl_pure rfl rfl rfl (pv_pick_t (v := .bool _) rfl rfl rfl) ?_
              refine xl_pure rfl rfl rfl (pv_move (v := .bool _) rfl rfl) ?_
              refine xl_pure rfl rfl rfl (pv_move (v := .pointer _) rfl rfl) ?_
              refine xl_heavy rfl rfl rfl (hv_call (g := 8) rfl rfl (gListG (hg6.ext hN6_25.ext) ok3) rfl) ?_
              rintro v6_30 H6_30 ⟨a6_30, c6_30, rfl, hD6_30, hE6_30⟩
              have m6_25 := m6_25.ext hE6_30
              have hX := hX.trans hE6_30
              refine xl_pure rfl rfl rfl (pv_build_s (cs := [.int _ _, .int _ _]) rfl rfl rfl) ?_
              refine xl_pure rfl rfl rfl (pv_build_s (cs := [.int _ _, .int _ _]) rfl rfl rfl) ?_
              refine xl_heavy rfl rfl rfl (hv_buildSlice (cs := [.int _ _, .int _ _, .int _ _, .int _ _]) rfl rfl rfl rfl rfl) ?_
              rintro v6_33 H6_33 ⟨b6_33, rfl, hN6_33⟩
              have gb6_33 := hX.fresh hN6_33
              have nm6_25_6_33 := m6_25.apart hN6_33
              have m6_25 := m6_25.ext hN6_33.ext
              have hX := hX.trans hN6_33.ext
              have m6_33 := hN6_33.blk
              refine xl_pure rfl rfl rfl (pv_build_s (cs := [.int _ _, .slice _ _ _]) rfl rfl rfl) ?_
              refine xl_heavy rfl rfl rfl (hv_buildSlice (cs := [.int _ _, .slice _ _ _]) rfl rfl rfl rfl rfl) ?_
              rintro v6_35 H6_35 ⟨b6_35, rfl, hN6_35⟩
              have gb6_35 := hX.fresh hN6_35
              have nm6_25_6_35 := m6_25.apart hN6_35
              have nm6_33_6_35 := m6_33.apart hN6_35
              have m6_25 := m6_25.ext hN6_35.ext
              have m6_33 := m6_33.ext hN6_35.ext
              have hX := hX.trans hN6_35.ext
              have m6_35 := hN6_35.blk
              refine xl_heavy rfl rfl rfl (hv_call (g := 10) rfl rfl (rSame (X := [[[1, 6], [3, 1]]]) (Y := [[[1, 6], [3, 1]]]) (B2 := 0) ((hD6_30 0).ext (hN6_33.ext.trans hN6_35.ext)) (.inr ⟨_, 0, rfl, ⟨.inr ⟨_, m6_35⟩, m6_35.lt⟩, em_DAt (EM.one (c := 2) (blk_rowsT (k := 2) (l := [[1, 6], [3, 1]]) (ex := []) m6_33 (fun r hr => by simp at hr; rcases hr with rfl | rfl <;> rfl)).toB) m6_35.row⟩) (by decide) (fun k hk => by have h0 : k = 0 := (by simpa using hk); subst h0; decide)) rfl) ?_
              rintro v6_36 H6_36 ⟨r6_36, rfl, hb6_36, rfl⟩
              obtain rfl : r6_36 = true := hb6_36.2 rfl
              refine xl_pure rfl rfl rfl (pv_pick_t (v := .bool _) rfl rfl rfl) ?_
              refine xl_pure rfl rfl rfl (pv_assign (v := .bool _) rfl rfl) ?_
              refine xl_nil ?_
              refine xthen_normal ?_
              refine xc_ret ?_
              refine fin_ret (res1 (v := .bool _) rfl rfl) ?_
              exact ⟨rfl, hX⟩
            · exact absurd rfl h6_20
          · exact absurd rfl h6_16
        · exact absurd rfl h6_12
      · exact absurd rfl h6_8
    · exact absurd rfl h6_4
  · exact absurd rfl h6_1

theorem gList0x : True := trivial

theorem gList0 {O : Outer} {H : Heap} {bp c : Nat} {a : Option Addr} (mp : Blk H bp [.slice a 0 c] 27) :
    FnC Try.prog 8 #[.pointer (some ⟨bp, 0, none⟩)] O H (fun v H' => v = .slice none 0 0 ∧ Ext H H') := by
  refine fn_enter (A := [.pointer (some ⟨bp, 0, none⟩)]) Try.func8 rfl rfl ?_
  have hX := Ext.refl H
  refine xc_seq ?_
  refine xc_region ?_
  refine xl_pure rfl rfl rfl (pv_assign (v := .slice _ _ _) rfl rfl) ?_
  refine xl_nil ?_
  refine xthen_normal ?_
  refine xc_seq ?_
  refine xc_seq ?_
  refine xc_region ?_
  refine xl_pure rfl rfl rfl (pv_move (v := .pointer _) rfl rfl) ?_
  refine xl_pure rfl rfl rfl (pv_eql_pn rfl rfl rfl) ?_
  refine xl_nil ?_
  refine xthen_normal ?_
  refine xc_cond_f rfl ?_
  refine xc_skip ?_
  refine xthen_normal ?_
  refine xc_seq ?_
  refine xc_region ?_
  refine xl_pure rfl rfl rfl (pv_assign (v := .slice _ _ _) rfl rfl) ?_
  refine xl_nil ?_
  refine xthen_normal ?_
  refine xc_seq ?_
  refine xc_seq ?_
  refine xc_region ?_
  refine xl_pure rfl rfl rfl (pv_move (v := .pointer _) rfl rfl) ?_
  refine xl_pure rfl rfl rfl (pv_nilCheck_p rfl rfl) ?_
  refine xl_pure rfl rfl rfl (pv_fieldAddr rfl rfl) ?_
  refine xl_light rfl rfl rfl (lv_load (v := .slice _ _ _) rfl rfl (ld_blk mp rfl)) ?_
  refine xl_pure rfl rfl rfl (pv_len_l rfl rfl) ?_
  refine xl_pure rfl rfl rfl (pv_move (v := .int _ _) rfl rfl) ?_
  refine xl_nil ?_
  refine xthen_normal ?_
  refine xc_block ?_
  refine xc_loop (τ := Unit) (fun t => [(3, .slice none 0 0), (11, .slice a 0 c), (12, .int .i64 0), (13, .int .i64 0)]) (fun t H' => (True) ∧ (Ext H H')) (fun t H' => 0) () ?_ ?_ ?_
  · exact ⟨rfl, rfl, rfl, rfl, trivial⟩
  · skip
    exact ⟨trivial, hX⟩
  · intro σ
    clear hX mp
    rintro t Hl5 ⟨hT, hX⟩
    replace hT : True := hT
    replace hX : Ext H Hl5 := hX
    show XC _ _ _ (upds σ [(3, .slice none 0 0), (11, .slice a 0 c), (12, .int .i64 0), (13, .int .i64 0)]) _
    refine xc_seq ?_
    refine xc_region ?_
    refine xl_dec rfl rfl rfl (pv_lss rfl rfl rfl) (fun h5_0 => ?_) (fun h5_0 => ?_)
    · exact absurd h5_0 (by decide)
    · skip
      refine xl_nil ?_
      refine xthen_normal ?_
      refine xc_seq ?_
      refine xc_cond_f rfl ?_
      refine xc_exit ?_
      refine xthen_exit ?_
      refine xthen_exit ?_
      refine xblock_same ?_
      refine xthen_normal ?_
      refine xc_seq ?_
      refine xc_region ?_
      refine xl_pure rfl rfl rfl (pv_move (v := .slice _ _ _) rfl rfl) ?_
      refine xl_pure rfl rfl rfl (pv_assign (v := .slice _ _ _) rfl rfl) ?_
      refine xl_nil ?_
      refine xthen_normal ?_
      refine xc_ret ?_
      refine fin_ret (res1 (v := .slice _ _ _) rfl rfl) ?_
      exact ⟨rfl, hX⟩

theorem c4 {O : Outer} {H : Heap} (r : List Int) (hr : r.length = 4) :
    FnC Try.prog 4 #[.agg (ints r).toArray] O H (fun v H' => v = .bool true ∧ Ext H H') := by
  refine fn_enter (A := [.agg (ints r).toArray]) Try.func4 rfl rfl ?_
  have hX := Ext.refl H
  refine xc_seq ?_
  refine xc_region ?_
  refine xl_heavy rfl rfl rfl (hv_box rfl rfl) ?_
  rintro v0_0 H0_0 ⟨b0_0, rfl, hN0_0⟩
  have gb0_0 := hX.fresh hN0_0
  have hX := hX.trans hN0_0.ext
  have m0_0 := hN0_0.blk
  refine xl_pure rfl rfl rfl (pv_assign (v := .bool _) rfl rfl) ?_
  refine xl_nil ?_
  refine xthen_normal ?_
  refine xc_seq ?_
  refine xc_region ?_
  refine xl_pure rfl rfl rfl (pv_assign (v := .pointer _) rfl rfl) ?_
  refine xl_nil ?_
  refine xthen_normal ?_
  refine xc_seq ?_
  refine xc_region ?_
  refine xl_pure rfl rfl rfl (pv_move (v := .pointer _) rfl rfl) ?_
  refine xl_light rfl rfl rfl (lv_load (v := .agg _) rfl rfl (by exact ld_ints m0_0 hr)) ?_
  refine xl_heavy rfl rfl rfl (hv_call (g := 9) rfl rfl (c9n r hr) rfl) ?_
  rintro v2_2 H2_2 ⟨rfl, hE2_2⟩
  have m0_0 := m0_0.ext hE2_2
  have hX := hX.trans hE2_2
  refine xl_pure rfl rfl rfl (pv_move (v := .tuple _) rfl rfl) ?_
  refine xl_pure rfl rfl rfl (pv_extract (v := .int _ _) rfl rfl rfl) ?_
  refine xl_pure rfl rfl rfl (pv_extract (v := .int _ _) rfl rfl rfl) ?_
  refine xl_pure rfl rfl rfl (pv_assign (v := .int _ _) rfl rfl) ?_
  refine xl_pure rfl rfl rfl (pv_assign (v := .int _ _) rfl rfl) ?_
  refine xl_nil ?_
  refine xthen_normal ?_
  refine xc_seq ?_
  refine xc_region ?_
  refine xl_pure rfl rfl rfl (pv_move (v := .pointer _) rfl rfl) ?_
  refine xl_pure rfl rfl rfl (pv_fieldAddr rfl rfl) ?_
  refine xl_light rfl rfl rfl (lv_load (v := .int _ _) rfl rfl (by exact ld_get (i := 1) m0_0 (by omega))) ?_
  refine xl_heavy rfl rfl rfl (hv_call (g := 11) rfl rfl (gMembersn _) rfl) ?_
  rintro v3_3 H3_3 ⟨rfl, hE3_3⟩
  have m0_0 := m0_0.ext hE3_3
  have hX := hX.trans hE3_3
  refine xl_pure rfl rfl rfl (pv_move (v := .tuple _) rfl rfl) ?_
  refine xl_pure rfl rfl rfl (pv_extract (v := .slice _ _ _) rfl rfl rfl) ?_
  refine xl_pure rfl rfl rfl (pv_extract (v := .int _ _) rfl rfl rfl) ?_
  refine xl_pure rfl rfl rfl (pv_assign (v := .slice _ _ _) rfl rfl) ?_
  refine xl_pure rfl rfl rfl (pv_assign (v := .int _ _) rfl rfl) ?_
  refine xl_nil ?_
  refine xthen_normal ?_
  refine xc_seq ?_
  refine xc_region ?_
  refine xl_pure rfl rfl rfl (pv_move (v := .pointer _) rfl rfl) ?_
  refine xl_heavy rfl rfl rfl (hv_call (g := 7) rfl rfl (gClonen) rfl) ?_
  rintro v4_1 H4_1 ⟨b4_1, rfl, hc4_1, hF4_1, hE4_1⟩
  have m0_0 := m0_0.ext hE4_1
  have hX := hX.trans hE4_1
  obtain ⟨ac, cc, hsc, m4_1, hOc, hMc⟩ := hc4_1
  have hFc := hF4_1.le
  refine xl_pure rfl rfl rfl (pv_assign (v := .pointer _) rfl rfl) ?_
  refine xl_nil ?_
  refine xthen_normal ?_
  refine xc_seq ?_
  refine xc_region ?_
  refine xl_pure rfl rfl rfl (pv_move (v := .int _ _) rfl rfl) ?_
  refine xl_dec rfl rfl rfl (pv_eql rfl rfl rfl) (fun h5_1 => ?_) (fun h5_1 => ?_)
  · skip
    refine xl_pure rfl rfl rfl (pv_move (v := .bool _) rfl rfl) ?_
    refine xl_pure rfl rfl rfl (pv_move (v := .int _ _) rfl rfl) ?_
    refine xl_dec rfl rfl rfl (pv_eql rfl rfl rfl) (fun h5_4 => ?_) (fun h5_4 => ?_)
    · skip
      refine xl_pure rfl rfl rfl (pv_pick_t (v := .bool _) rfl rfl rfl) ?_
      refine xl_pure rfl rfl rfl (pv_move (v := .bool _) rfl rfl) ?_
      refine xl_pure rfl rfl rfl (pv_move (v := .int _ _) rfl rfl) ?_
      refine xl_dec rfl rfl rfl (pv_eql rfl rfl rfl) (fun h5_8 => ?_) (fun h5_8 => ?_)
      · skip
        refine xl_pure rfl rfl rfl (pv_pick_t (v := .bool _) rfl rfl rfl) ?_
        refine xl_pure rfl rfl rfl (pv_move (v := .bool _) rfl rfl) ?_
        refine xl_pure rfl rfl rfl (pv_move (v := .pointer _) rfl rfl) ?_
        refine xl_pure rfl rfl rfl (pv_fieldAddr rfl rfl) ?_
        refine xl_light rfl rfl rfl (lv_load (v := .int _ _) rfl rfl (by exact ld_get (i := 2) m0_0 (by omega))) ?_
        refine xl_heavy rfl rfl rfl (hv_call (g := 12) rfl rfl (gOfn _) rfl) ?_
        rintro v5_14 H5_14 ⟨rfl, hE5_14⟩
        have m0_0 := m0_0.ext hE5_14
        have m4_1 := m4_1.ext hE5_14
        have hX := hX.trans hE5_14
        refine xl_pure rfl rfl rfl (pv_len_l rfl rfl) ?_
        refine xl_dec rfl rfl rfl (pv_eql rfl rfl rfl) (fun h5_16 => ?_) (fun h5_16 => ?_)
        · skip
          refine xl_pure rfl rfl rfl (pv_pick_t (v := .bool _) rfl rfl rfl) ?_
          refine xl_pure rfl rfl rfl (pv_move (v := .bool _) rfl rfl) ?_
          refine xl_pure rfl rfl rfl (pv_move (v := .pointer _) rfl rfl) ?_
          refine xl_heavy rfl rfl rfl (hv_call (g := 8) rfl rfl (gListn) rfl) ?_
          rintro v5_20 H5_20 ⟨rfl, hE5_20⟩
          have m0_0 := m0_0.ext hE5_20
          have m4_1 := m4_1.ext hE5_20
          have hX := hX.trans hE5_20
          refine xl_pure rfl rfl rfl (pv_len_l rfl rfl) ?_
          refine xl_dec rfl rfl rfl (pv_eql rfl rfl rfl) (fun h5_22 => ?_) (fun h5_22 => ?_)
          · skip
            refine xl_pure rfl rfl rfl (pv_pick_t (v := .bool _) rfl rfl rfl) ?_
            refine xl_pure rfl rfl rfl (pv_move (v := .bool _) rfl rfl) ?_
            refine xl_pure rfl rfl rfl (pv_move (v := .pointer _) rfl rfl) ?_
            refine xl_pure rfl rfl rfl (pv_neq_pn rfl rfl rfl) ?_
            refine xl_pure rfl rfl rfl (pv_pick_t (v := .bool _) rfl rfl rfl) ?_
            refine xl_pure rfl rfl rfl (pv_move (v := .bool _) rfl rfl) ?_
            refine xl_pure rfl rfl rfl (pv_move (v := .pointer _) rfl rfl) ?_
            refine xl_heavy rfl rfl rfl (hv_call (g := 8) rfl rfl (gList0 m4_1) rfl) ?_
            rintro v5_30 H5_30 ⟨rfl, hE5_30⟩
            have m0_0 := m0_0.ext hE5_30
            have m4_1 := m4_1.ext hE5_30
            have hX := hX.trans hE5_30
            refine xl_pure rfl rfl rfl (pv_len_l rfl rfl) ?_
            refine xl_dec rfl rfl rfl (pv_eql rfl rfl rfl) (fun h5_32 => ?_) (fun h5_32 => ?_)
            · skip
              refine xl_pure rfl rfl rfl (pv_pick_t (v := .bool _) rfl rfl rfl) ?_
              refine xl_pure rfl rfl rfl (pv_move (v := .bool _) rfl rfl) ?_
              refine xl_heavy rfl rfl rfl (hv_call (g := 6) rfl rfl (c6) rfl) ?_
              rintro v5_35 H5_35 ⟨rfl, hE5_35⟩
              have m0_0 := m0_0.ext hE5_35
              have m4_1 := m4_1.ext hE5_35
              have hX := hX.trans hE5_35
              refine xl_pure rfl rfl rfl (pv_pick_t (v := .bool _) rfl rfl rfl) ?_
              refine xl_pure rfl rfl rfl (pv_assign (v := .bool _) rfl rfl) ?_
              refine xl_nil ?_
              refine xthen_normal ?_
              refine xc_ret ?_
              refine fin_ret (res1 (v := .bool _) rfl rfl) ?_
              exact ⟨rfl, hX⟩
            · exact absurd rfl h5_32
          · exact absurd rfl h5_22
        · exact absurd rfl h5_16
      · exact absurd rfl h5_8
    · exact absurd rfl h5_4
  · exact absurd rfl h5_1
end Go.XG
