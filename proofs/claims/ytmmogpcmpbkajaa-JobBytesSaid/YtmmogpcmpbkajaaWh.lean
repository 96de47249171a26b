/-
  Walks of the seat's functions over the logic XG: each function, what it computes. Printed by a program out of wip/walks.py.
-/
import Derived.Test.YtmmogpcmpbkajaaI
import Derived.Test.YtmmogpcmpbkajaaP
import Derived.Test.YtmmogpcmpbkajaaL
import Derived.Test.YtmmogpcmpbkajaaWa
import Derived.Test.YtmmogpcmpbkajaaWb
import Derived.Test.YtmmogpcmpbkajaaWc
import Derived.Test.YtmmogpcmpbkajaaWd
import Derived.Test.YtmmogpcmpbkajaaWe
import Derived.Test.YtmmogpcmpbkajaaWf
import Derived.Test.YtmmogpcmpbkajaaWg
namespace Go.XG
open Go.Proofs
set_option maxRecDepth 4000
set_option maxHeartbeats 4000000
def JA : J := ⟨1, 1, 2, 0, 2, 1, 3, 4, 0, 10, 0, [], 2, 5, 15, 10⟩
def JB : J := ⟨1, 1, 2, 0, 2, 1, 3, 4, 0, 10, 0, [], 3, 0, 0, 7⟩
def JC : J := ⟨1, 1, 2, 0, 2, 1, 3, 4, 0, 10, 0, [], 1, 0, 0, 7⟩
def JD : J := ⟨1, 1, 2, 0, 2, 1, 3, 4, 0, 10, 0, [], 2, 20, 27, 7⟩
def JX : J := ⟨1, 1, 2, 0, 2, 1, 3, 4, 0, 10, 0, [], 4, 20, 27, 0⟩
def JY : J := ⟨1, 1, 2, 0, 2, 1, 3, 4, 0, 10, 0, [], 5, 20, 27, 0⟩

theorem c6 {O : Outer} {H : Heap}  :
    FnC Try.prog 6 #[] O H (fun v H' => v = .bool true ∧ Ext H H') := by
  refine fn_enter (A := []) Try.func6 rfl rfl ?_
  refine xc_seq ?_
  refine xc_region ?_
  refine xl_pure rfl rfl rfl (pv_assign (v := .bool _) rfl rfl) ?_
  refine xl_nil ?_
  refine xthen_normal ?_
  refine xc_seq ?_
  refine xc_region ?_
  refine xl_heavy rfl rfl rfl (hv_call (g := 7) rfl rfl (c7) rfl) ?_
  rintro v1_0 H1_0 ⟨rfl, hX⟩
  refine xl_heavy rfl rfl rfl (hv_call (g := 21) rfl rfl (c21 Plain none 0 5 (.inl rfl) (by decide)) rfl) ?_
  rintro v1_1 H1_1 ⟨e1_1, j1_1, a1_1, c1_1, rfl, hd1_1, hk1_1, hE1_1⟩
  have hX := hX.trans hE1_1
  have hd1_1 := hd1_1.trans (by decide : chg Plain 5 (actB Plain 1 5) = (0, JA))
  simp only [Prod.mk.injEq] at hd1_1
  obtain ⟨rfl, rfl⟩ := hd1_1
  refine xl_pure rfl rfl rfl (pv_move (v := .tuple _) rfl rfl) ?_
  refine xl_pure rfl rfl rfl (pv_extract (v := .agg _) rfl rfl rfl) ?_
  refine xl_pure rfl rfl rfl (pv_extract (v := .int _ _) rfl rfl rfl) ?_
  refine xl_heavy rfl rfl rfl (hv_alloc rfl rfl) ?_
  rintro v1_5 H1_5 ⟨b1_5, rfl, hN1_5⟩
  have hge := Nat.le_trans hX.size hN1_5.ge
  have hX := hX.trans hN1_5.ext
  have hA := hN1_5.blk
  refine xl_store rfl rfl (hv_storeA (vs := [.int _ _, .int _ _, .int _ _, .int _ _, .int _ _, .int _ _, .int _ _, .int _ _, .int _ _, .int _ _, .int _ _, .slice _ _ _, .int _ _, .int _ _, .int _ _, .int _ _]) rfl rfl rfl (by first | exact ld_blk hA rfl | exact ld_blk_a hA rfl rfl | exact hA | exact ld_blk hB rfl | exact ld_blk_a hB rfl rfl | exact hB | exact ld_blk hC rfl | exact ld_blk_a hC rfl rfl | exact hC | exact ld_blk hD rfl | exact ld_blk_a hD rfl rfl | exact hD | exact ld_blk hI rfl | exact ld_blk_a hI rfl rfl | exact hI | exact ld_blk hZ rfl | exact ld_blk_a hZ rfl rfl | exact hZ | exact ld_blk hY rfl | exact ld_blk_a hY rfl rfl | exact hY) rfl (by rfl) rfl) ?_
  rintro v1_6 H1_6 ⟨hU1_6, hZ1_6⟩
  have hX := hX.ofBut hU1_6.but hge
  have hA := hU1_6.blk
  refine xl_pure rfl rfl rfl (pv_assign (v := .int _ _) rfl rfl) ?_
  refine xl_nil ?_
  refine xthen_normal ?_
  refine xc_seq ?_
  refine xc_region ?_
  refine xl_light rfl rfl rfl (lv_load (v := .agg _) rfl rfl (by first | exact ld_blk hA rfl | exact ld_blk_a hA rfl rfl | exact hA | exact ld_blk hB rfl | exact ld_blk_a hB rfl rfl | exact hB | exact ld_blk hC rfl | exact ld_blk_a hC rfl rfl | exact hC | exact ld_blk hD rfl | exact ld_blk_a hD rfl rfl | exact hD | exact ld_blk hI rfl | exact ld_blk_a hI rfl rfl | exact hI | exact ld_blk hZ rfl | exact ld_blk_a hZ rfl rfl | exact hZ | exact ld_blk hY rfl | exact ld_blk_a hY rfl rfl | exact hY)) ?_
  refine xl_heavy rfl rfl rfl (hv_call (g := 22) rfl rfl (c22 JA a1_1 c1_1 8 (.inl rfl) (by decide)) rfl) ?_
  rintro v2_1 H2_1 ⟨e2_1, j2_1, a2_1, c2_1, rfl, hd2_1, hk2_1, hE2_1⟩
  have hX := hX.trans hE2_1
  have hA := hA.ext hE2_1
  have hd2_1 := hd2_1.trans (by decide : chg JA 8 (actB JA 2 8) = (0, JB))
  simp only [Prod.mk.injEq] at hd2_1
  obtain ⟨rfl, rfl⟩ := hd2_1
  refine xl_pure rfl rfl rfl (pv_move (v := .tuple _) rfl rfl) ?_
  refine xl_pure rfl rfl rfl (pv_extract (v := .agg _) rfl rfl rfl) ?_
  refine xl_pure rfl rfl rfl (pv_extract (v := .int _ _) rfl rfl rfl) ?_
  refine xl_heavy rfl rfl rfl (hv_alloc rfl rfl) ?_
  rintro v2_5 H2_5 ⟨b2_5, rfl, hN2_5⟩
  have hge := Nat.le_trans hX.size hN2_5.ge
  have hX := hX.trans hN2_5.ext
  have hneA := hA.fresh hN2_5.ge
  have hA := hA.ext hN2_5.ext
  have hB := hN2_5.blk
  refine xl_store rfl rfl (hv_storeA (vs := [.int _ _, .int _ _, .int _ _, .int _ _, .int _ _, .int _ _, .int _ _, .int _ _, .int _ _, .int _ _, .int _ _, .slice _ _ _, .int _ _, .int _ _, .int _ _, .int _ _]) rfl rfl rfl (by first | exact ld_blk hA rfl | exact ld_blk_a hA rfl rfl | exact hA | exact ld_blk hB rfl | exact ld_blk_a hB rfl rfl | exact hB | exact ld_blk hC rfl | exact ld_blk_a hC rfl rfl | exact hC | exact ld_blk hD rfl | exact ld_blk_a hD rfl rfl | exact hD | exact ld_blk hI rfl | exact ld_blk_a hI rfl rfl | exact hI | exact ld_blk hZ rfl | exact ld_blk_a hZ rfl rfl | exact hZ | exact ld_blk hY rfl | exact ld_blk_a hY rfl rfl | exact hY) rfl (by rfl) rfl) ?_
  rintro v2_6 H2_6 ⟨hU2_6, hZ2_6⟩
  have hX := hX.ofBut hU2_6.but hge
  have hA := hA.but hU2_6.but hneA
  have hB := hU2_6.blk
  refine xl_pure rfl rfl rfl (pv_assign (v := .int _ _) rfl rfl) ?_
  refine xl_nil ?_
  refine xthen_normal ?_
  refine xc_seq ?_
  refine xc_region ?_
  refine xl_light rfl rfl rfl (lv_load (v := .agg _) rfl rfl (by first | exact ld_blk hA rfl | exact ld_blk_a hA rfl rfl | exact hA | exact ld_blk hB rfl | exact ld_blk_a hB rfl rfl | exact hB | exact ld_blk hC rfl | exact ld_blk_a hC rfl rfl | exact hC | exact ld_blk hD rfl | exact ld_blk_a hD rfl rfl | exact hD | exact ld_blk hI rfl | exact ld_blk_a hI rfl rfl | exact hI | exact ld_blk hZ rfl | exact ld_blk_a hZ rfl rfl | exact hZ | exact ld_blk hY rfl | exact ld_blk_a hY rfl rfl | exact hY)) ?_
  refine xl_heavy rfl rfl rfl (hv_call (g := 23) rfl rfl (c23 JB a2_1 c2_1 (.inl rfl) (by decide)) rfl) ?_
  rintro v3_1 H3_1 ⟨e3_1, j3_1, a3_1, c3_1, rfl, hd3_1, hk3_1, hE3_1⟩
  have hX := hX.trans hE3_1
  have hA := hA.ext hE3_1
  have hB := hB.ext hE3_1
  have hd3_1 := hd3_1.trans (by decide : chg JB 0 (actB JB 3 0) = (0, JC))
  simp only [Prod.mk.injEq] at hd3_1
  obtain ⟨rfl, rfl⟩ := hd3_1
  refine xl_pure rfl rfl rfl (pv_move (v := .tuple _) rfl rfl) ?_
  refine xl_pure rfl rfl rfl (pv_extract (v := .agg _) rfl rfl rfl) ?_
  refine xl_pure rfl rfl rfl (pv_extract (v := .int _ _) rfl rfl rfl) ?_
  refine xl_heavy rfl rfl rfl (hv_alloc rfl rfl) ?_
  rintro v3_5 H3_5 ⟨b3_5, rfl, hN3_5⟩
  have hge := Nat.le_trans hX.size hN3_5.ge
  have hX := hX.trans hN3_5.ext
  have hneA := hA.fresh hN3_5.ge
  have hneB := hB.fresh hN3_5.ge
  have hA := hA.ext hN3_5.ext
  have hB := hB.ext hN3_5.ext
  have hC := hN3_5.blk
  refine xl_store rfl rfl (hv_storeA (vs := [.int _ _, .int _ _, .int _ _, .int _ _, .int _ _, .int _ _, .int _ _, .int _ _, .int _ _, .int _ _, .int _ _, .slice _ _ _, .int _ _, .int _ _, .int _ _, .int _ _]) rfl rfl rfl (by first | exact ld_blk hA rfl | exact ld_blk_a hA rfl rfl | exact hA | exact ld_blk hB rfl | exact ld_blk_a hB rfl rfl | exact hB | exact ld_blk hC rfl | exact ld_blk_a hC rfl rfl | exact hC | exact ld_blk hD rfl | exact ld_blk_a hD rfl rfl | exact hD | exact ld_blk hI rfl | exact ld_blk_a hI rfl rfl | exact hI | exact ld_blk hZ rfl | exact ld_blk_a hZ rfl rfl | exact hZ | exact ld_blk hY rfl | exact ld_blk_a hY rfl rfl | exact hY) rfl (by rfl) rfl) ?_
  rintro v3_6 H3_6 ⟨hU3_6, hZ3_6⟩
  have hX := hX.ofBut hU3_6.but hge
  have hA := hA.but hU3_6.but hneA
  have hB := hB.but hU3_6.but hneB
  have hC := hU3_6.blk
  refine xl_pure rfl rfl rfl (pv_assign (v := .int _ _) rfl rfl) ?_
  refine xl_nil ?_
  refine xthen_normal ?_
  refine xc_seq ?_
  refine xc_region ?_
  refine xl_light rfl rfl rfl (lv_load (v := .agg _) rfl rfl (by first | exact ld_blk hA rfl | exact ld_blk_a hA rfl rfl | exact hA | exact ld_blk hB rfl | exact ld_blk_a hB rfl rfl | exact hB | exact ld_blk hC rfl | exact ld_blk_a hC rfl rfl | exact hC | exact ld_blk hD rfl | exact ld_blk_a hD rfl rfl | exact hD | exact ld_blk hI rfl | exact ld_blk_a hI rfl rfl | exact hI | exact ld_blk hZ rfl | exact ld_blk_a hZ rfl rfl | exact hZ | exact ld_blk hY rfl | exact ld_blk_a hY rfl rfl | exact hY)) ?_
  refine xl_heavy rfl rfl rfl (hv_call (g := 21) rfl rfl (c21 JC a3_1 c3_1 20 (.inl rfl) (by decide)) rfl) ?_
  rintro v4_1 H4_1 ⟨e4_1, j4_1, a4_1, c4_1, rfl, hd4_1, hk4_1, hE4_1⟩
  have hX := hX.trans hE4_1
  have hA := hA.ext hE4_1
  have hB := hB.ext hE4_1
  have hC := hC.ext hE4_1
  have hd4_1 := hd4_1.trans (by decide : chg JC 20 (actB JC 1 20) = (0, JD))
  simp only [Prod.mk.injEq] at hd4_1
  obtain ⟨rfl, rfl⟩ := hd4_1
  refine xl_pure rfl rfl rfl (pv_move (v := .tuple _) rfl rfl) ?_
  refine xl_pure rfl rfl rfl (pv_extract (v := .agg _) rfl rfl rfl) ?_
  refine xl_pure rfl rfl rfl (pv_extract (v := .int _ _) rfl rfl rfl) ?_
  refine xl_heavy rfl rfl rfl (hv_alloc rfl rfl) ?_
  rintro v4_5 H4_5 ⟨b4_5, rfl, hN4_5⟩
  have hge := Nat.le_trans hX.size hN4_5.ge
  have hX := hX.trans hN4_5.ext
  have hneA := hA.fresh hN4_5.ge
  have hneB := hB.fresh hN4_5.ge
  have hneC := hC.fresh hN4_5.ge
  have hA := hA.ext hN4_5.ext
  have hB := hB.ext hN4_5.ext
  have hC := hC.ext hN4_5.ext
  have hD := hN4_5.blk
  refine xl_store rfl rfl (hv_storeA (vs := [.int _ _, .int _ _, .int _ _, .int _ _, .int _ _, .int _ _, .int _ _, .int _ _, .int _ _, .int _ _, .int _ _, .slice _ _ _, .int _ _, .int _ _, .int _ _, .int _ _]) rfl rfl rfl (by first | exact ld_blk hA rfl | exact ld_blk_a hA rfl rfl | exact hA | exact ld_blk hB rfl | exact ld_blk_a hB rfl rfl | exact hB | exact ld_blk hC rfl | exact ld_blk_a hC rfl rfl | exact hC | exact ld_blk hD rfl | exact ld_blk_a hD rfl rfl | exact hD | exact ld_blk hI rfl | exact ld_blk_a hI rfl rfl | exact hI | exact ld_blk hZ rfl | exact ld_blk_a hZ rfl rfl | exact hZ | exact ld_blk hY rfl | exact ld_blk_a hY rfl rfl | exact hY) rfl (by rfl) rfl) ?_
  rintro v4_6 H4_6 ⟨hU4_6, hZ4_6⟩
  have hX := hX.ofBut hU4_6.but hge
  have hA := hA.but hU4_6.but hneA
  have hB := hB.but hU4_6.but hneB
  have hC := hC.but hU4_6.but hneC
  have hD := hU4_6.blk
  refine xl_pure rfl rfl rfl (pv_assign (v := .int _ _) rfl rfl) ?_
  refine xl_nil ?_
  refine xthen_normal ?_
  refine xc_seq ?_
  refine xc_region ?_
  refine xl_light rfl rfl rfl (lv_load (v := .agg _) rfl rfl (by first | exact ld_blk hA rfl | exact ld_blk_a hA rfl rfl | exact hA | exact ld_blk hB rfl | exact ld_blk_a hB rfl rfl | exact hB | exact ld_blk hC rfl | exact ld_blk_a hC rfl rfl | exact hC | exact ld_blk hD rfl | exact ld_blk_a hD rfl rfl | exact hD | exact ld_blk hI rfl | exact ld_blk_a hI rfl rfl | exact hI | exact ld_blk hZ rfl | exact ld_blk_a hZ rfl rfl | exact hZ | exact ld_blk hY rfl | exact ld_blk_a hY rfl rfl | exact hY)) ?_
  refine xl_heavy rfl rfl rfl (hv_call (g := 24) rfl rfl (c24 JD a4_1 c4_1 26 (.inl rfl) (by decide)) rfl) ?_
  rintro v5_1 H5_1 ⟨e5_1, j5_1, a5_1, c5_1, rfl, hd5_1, hk5_1, hE5_1⟩
  have hX := hX.trans hE5_1
  have hA := hA.ext hE5_1
  have hB := hB.ext hE5_1
  have hC := hC.ext hE5_1
  have hD := hD.ext hE5_1
  have hd5_1 := hd5_1.trans (by decide : chg JD 26 (actB JD 4 26) = (9, J0))
  simp only [Prod.mk.injEq] at hd5_1
  obtain ⟨rfl, rfl⟩ := hd5_1
  refine xl_pure rfl rfl rfl (pv_move (v := .tuple _) rfl rfl) ?_
  refine xl_pure rfl rfl rfl (pv_extract (v := .agg _) rfl rfl rfl) ?_
  refine xl_pure rfl rfl rfl (pv_extract (v := .int _ _) rfl rfl rfl) ?_
  refine xl_heavy rfl rfl rfl (hv_alloc rfl rfl) ?_
  rintro v5_5 H5_5 ⟨b5_5, rfl, hN5_5⟩
  have hge := Nat.le_trans hX.size hN5_5.ge
  have hX := hX.trans hN5_5.ext
  have hneA := hA.fresh hN5_5.ge
  have hneB := hB.fresh hN5_5.ge
  have hneC := hC.fresh hN5_5.ge
  have hneD := hD.fresh hN5_5.ge
  have hA := hA.ext hN5_5.ext
  have hB := hB.ext hN5_5.ext
  have hC := hC.ext hN5_5.ext
  have hD := hD.ext hN5_5.ext
  have hI := hN5_5.blk
  refine xl_store rfl rfl (hv_storeA (vs := [.int _ _, .int _ _, .int _ _, .int _ _, .int _ _, .int _ _, .int _ _, .int _ _, .int _ _, .int _ _, .int _ _, .slice _ _ _, .int _ _, .int _ _, .int _ _, .int _ _]) rfl rfl rfl (by first | exact ld_blk hA rfl | exact ld_blk_a hA rfl rfl | exact hA | exact ld_blk hB rfl | exact ld_blk_a hB rfl rfl | exact hB | exact ld_blk hC rfl | exact ld_blk_a hC rfl rfl | exact hC | exact ld_blk hD rfl | exact ld_blk_a hD rfl rfl | exact hD | exact ld_blk hI rfl | exact ld_blk_a hI rfl rfl | exact hI | exact ld_blk hZ rfl | exact ld_blk_a hZ rfl rfl | exact hZ | exact ld_blk hY rfl | exact ld_blk_a hY rfl rfl | exact hY) rfl (by rfl) rfl) ?_
  rintro v5_6 H5_6 ⟨hU5_6, hZ5_6⟩
  have hX := hX.ofBut hU5_6.but hge
  have hA := hA.but hU5_6.but hneA
  have hB := hB.but hU5_6.but hneB
  have hC := hC.but hU5_6.but hneC
  have hD := hD.but hU5_6.but hneD
  have hI := hU5_6.blk
  refine xl_pure rfl rfl rfl (pv_assign (v := .int _ _) rfl rfl) ?_
  refine xl_nil ?_
  refine xthen_normal ?_
  refine xc_seq ?_
  refine xc_region ?_
  refine xl_light rfl rfl rfl (lv_load (v := .agg _) rfl rfl (by first | exact ld_blk hA rfl | exact ld_blk_a hA rfl rfl | exact hA | exact ld_blk hB rfl | exact ld_blk_a hB rfl rfl | exact hB | exact ld_blk hC rfl | exact ld_blk_a hC rfl rfl | exact hC | exact ld_blk hD rfl | exact ld_blk_a hD rfl rfl | exact hD | exact ld_blk hI rfl | exact ld_blk_a hI rfl rfl | exact hI | exact ld_blk hZ rfl | exact ld_blk_a hZ rfl rfl | exact hZ | exact ld_blk hY rfl | exact ld_blk_a hY rfl rfl | exact hY)) ?_
  refine xl_heavy rfl rfl rfl (hv_call (g := 24) rfl rfl (c24 JD a4_1 c4_1 27 (.inl rfl) (by decide)) rfl) ?_
  rintro v6_1 H6_1 ⟨e6_1, j6_1, a6_1, c6_1, rfl, hd6_1, hk6_1, hE6_1⟩
  have hX := hX.trans hE6_1
  have hA := hA.ext hE6_1
  have hB := hB.ext hE6_1
  have hC := hC.ext hE6_1
  have hD := hD.ext hE6_1
  have hI := hI.ext hE6_1
  have hd6_1 := hd6_1.trans (by decide : chg JD 27 (actB JD 4 27) = (0, JX))
  simp only [Prod.mk.injEq] at hd6_1
  obtain ⟨rfl, rfl⟩ := hd6_1
  refine xl_pure rfl rfl rfl (pv_move (v := .tuple _) rfl rfl) ?_
  refine xl_pure rfl rfl rfl (pv_extract (v := .agg _) rfl rfl rfl) ?_
  refine xl_pure rfl rfl rfl (pv_extract (v := .int _ _) rfl rfl rfl) ?_
  refine xl_heavy rfl rfl rfl (hv_alloc rfl rfl) ?_
  rintro v6_5 H6_5 ⟨b6_5, rfl, hN6_5⟩
  have hge := Nat.le_trans hX.size hN6_5.ge
  have hX := hX.trans hN6_5.ext
  have hneA := hA.fresh hN6_5.ge
  have hneB := hB.fresh hN6_5.ge
  have hneC := hC.fresh hN6_5.ge
  have hneD := hD.fresh hN6_5.ge
  have hneI := hI.fresh hN6_5.ge
  have hA := hA.ext hN6_5.ext
  have hB := hB.ext hN6_5.ext
  have hC := hC.ext hN6_5.ext
  have hD := hD.ext hN6_5.ext
  have hI := hI.ext hN6_5.ext
  have hZ := hN6_5.blk
  refine xl_store rfl rfl (hv_storeA (vs := [.int _ _, .int _ _, .int _ _, .int _ _, .int _ _, .int _ _, .int _ _, .int _ _, .int _ _, .int _ _, .int _ _, .slice _ _ _, .int _ _, .int _ _, .int _ _, .int _ _]) rfl rfl rfl (by first | exact ld_blk hA rfl | exact ld_blk_a hA rfl rfl | exact hA | exact ld_blk hB rfl | exact ld_blk_a hB rfl rfl | exact hB | exact ld_blk hC rfl | exact ld_blk_a hC rfl rfl | exact hC | exact ld_blk hD rfl | exact ld_blk_a hD rfl rfl | exact hD | exact ld_blk hI rfl | exact ld_blk_a hI rfl rfl | exact hI | exact ld_blk hZ rfl | exact ld_blk_a hZ rfl rfl | exact hZ | exact ld_blk hY rfl | exact ld_blk_a hY rfl rfl | exact hY) rfl (by rfl) rfl) ?_
  rintro v6_6 H6_6 ⟨hU6_6, hZ6_6⟩
  have hX := hX.ofBut hU6_6.but hge
  have hA := hA.but hU6_6.but hneA
  have hB := hB.but hU6_6.but hneB
  have hC := hC.but hU6_6.but hneC
  have hD := hD.but hU6_6.but hneD
  have hI := hI.but hU6_6.but hneI
  have hZ := hU6_6.blk
  refine xl_pure rfl rfl rfl (pv_assign (v := .int _ _) rfl rfl) ?_
  refine xl_nil ?_
  refine xthen_normal ?_
  refine xc_seq ?_
  refine xc_region ?_
  refine xl_light rfl rfl rfl (lv_load (v := .agg _) rfl rfl (by first | exact ld_blk hA rfl | exact ld_blk_a hA rfl rfl | exact hA | exact ld_blk hB rfl | exact ld_blk_a hB rfl rfl | exact hB | exact ld_blk hC rfl | exact ld_blk_a hC rfl rfl | exact hC | exact ld_blk hD rfl | exact ld_blk_a hD rfl rfl | exact hD | exact ld_blk hI rfl | exact ld_blk_a hI rfl rfl | exact hI | exact ld_blk hZ rfl | exact ld_blk_a hZ rfl rfl | exact hZ | exact ld_blk hY rfl | exact ld_blk_a hY rfl rfl | exact hY)) ?_
  refine xl_heavy rfl rfl rfl (hv_call (g := 25) rfl rfl (c25 JX a6_1 c6_1 (.inl rfl) (by decide)) rfl) ?_
  rintro v7_1 H7_1 ⟨e7_1, j7_1, a7_1, c7_1, rfl, hd7_1, hk7_1, hE7_1⟩
  have hX := hX.trans hE7_1
  have hA := hA.ext hE7_1
  have hB := hB.ext hE7_1
  have hC := hC.ext hE7_1
  have hD := hD.ext hE7_1
  have hI := hI.ext hE7_1
  have hZ := hZ.ext hE7_1
  have hd7_1 := hd7_1.trans (by decide : chg JX 0 (actB JX 5 0) = (0, JY))
  simp only [Prod.mk.injEq] at hd7_1
  obtain ⟨rfl, rfl⟩ := hd7_1
  refine xl_pure rfl rfl rfl (pv_move (v := .tuple _) rfl rfl) ?_
  refine xl_pure rfl rfl rfl (pv_extract (v := .agg _) rfl rfl rfl) ?_
  refine xl_pure rfl rfl rfl (pv_extract (v := .int _ _) rfl rfl rfl) ?_
  refine xl_heavy rfl rfl rfl (hv_alloc rfl rfl) ?_
  rintro v7_5 H7_5 ⟨b7_5, rfl, hN7_5⟩
  have hge := Nat.le_trans hX.size hN7_5.ge
  have hX := hX.trans hN7_5.ext
  have hneA := hA.fresh hN7_5.ge
  have hneB := hB.fresh hN7_5.ge
  have hneC := hC.fresh hN7_5.ge
  have hneD := hD.fresh hN7_5.ge
  have hneI := hI.fresh hN7_5.ge
  have hneZ := hZ.fresh hN7_5.ge
  have hA := hA.ext hN7_5.ext
  have hB := hB.ext hN7_5.ext
  have hC := hC.ext hN7_5.ext
  have hD := hD.ext hN7_5.ext
  have hI := hI.ext hN7_5.ext
  have hZ := hZ.ext hN7_5.ext
  have hY := hN7_5.blk
  refine xl_store rfl rfl (hv_storeA (vs := [.int _ _, .int _ _, .int _ _, .int _ _, .int _ _, .int _ _, .int _ _, .int _ _, .int _ _, .int _ _, .int _ _, .slice _ _ _, .int _ _, .int _ _, .int _ _, .int _ _]) rfl rfl rfl (by first | exact ld_blk hA rfl | exact ld_blk_a hA rfl rfl | exact hA | exact ld_blk hB rfl | exact ld_blk_a hB rfl rfl | exact hB | exact ld_blk hC rfl | exact ld_blk_a hC rfl rfl | exact hC | exact ld_blk hD rfl | exact ld_blk_a hD rfl rfl | exact hD | exact ld_blk hI rfl | exact ld_blk_a hI rfl rfl | exact hI | exact ld_blk hZ rfl | exact ld_blk_a hZ rfl rfl | exact hZ | exact ld_blk hY rfl | exact ld_blk_a hY rfl rfl | exact hY) rfl (by rfl) rfl) ?_
  rintro v7_6 H7_6 ⟨hU7_6, hZ7_6⟩
  have hX := hX.ofBut hU7_6.but hge
  have hA := hA.but hU7_6.but hneA
  have hB := hB.but hU7_6.but hneB
  have hC := hC.but hU7_6.but hneC
  have hD := hD.but hU7_6.but hneD
  have hI := hI.but hU7_6.but hneI
  have hZ := hZ.but hU7_6.but hneZ
  have hY := hU7_6.blk
  refine xl_pure rfl rfl rfl (pv_assign (v := .int _ _) rfl rfl) ?_
  refine xl_nil ?_
  refine xthen_normal ?_
  refine xc_seq ?_
  refine xc_region ?_
  refine xl_pure rfl rfl rfl (pv_move (v := .int _ _) rfl rfl) ?_
  refine xl_dec rfl rfl rfl (pv_eql rfl rfl rfl) (fun h8_1 => ?_) (fun h8_1 => ?_)
  · skip
    refine xl_pure rfl rfl rfl (pv_move (v := .bool _) rfl rfl) ?_
    refine xl_pure rfl rfl rfl (pv_fieldAddr rfl rfl) ?_
    refine xl_light rfl rfl rfl (lv_load (v := .int _ _) rfl rfl (by first | exact ld_blk hA rfl | exact ld_blk_a hA rfl rfl | exact hA | exact ld_blk hB rfl | exact ld_blk_a hB rfl rfl | exact hB | exact ld_blk hC rfl | exact ld_blk_a hC rfl rfl | exact hC | exact ld_blk hD rfl | exact ld_blk_a hD rfl rfl | exact hD | exact ld_blk hI rfl | exact ld_blk_a hI rfl rfl | exact hI | exact ld_blk hZ rfl | exact ld_blk_a hZ rfl rfl | exact hZ | exact ld_blk hY rfl | exact ld_blk_a hY rfl rfl | exact hY)) ?_
    refine xl_dec rfl rfl rfl (pv_eql rfl rfl rfl) (fun h8_5 => ?_) (fun h8_5 => ?_)
    · skip
      refine xl_pure rfl rfl rfl (pv_pick_t (v := .bool _) rfl rfl rfl) ?_
      refine xl_pure rfl rfl rfl (pv_move (v := .bool _) rfl rfl) ?_
      refine xl_pure rfl rfl rfl (pv_move (v := .int _ _) rfl rfl) ?_
      refine xl_dec rfl rfl rfl (pv_eql rfl rfl rfl) (fun h8_9 => ?_) (fun h8_9 => ?_)
      · skip
        refine xl_pure rfl rfl rfl (pv_pick_t (v := .bool _) rfl rfl rfl) ?_
        refine xl_pure rfl rfl rfl (pv_move (v := .bool _) rfl rfl) ?_
        refine xl_pure rfl rfl rfl (pv_fieldAddr rfl rfl) ?_
        refine xl_light rfl rfl rfl (lv_load (v := .int _ _) rfl rfl (by first | exact ld_blk hA rfl | exact ld_blk_a hA rfl rfl | exact hA | exact ld_blk hB rfl | exact ld_blk_a hB rfl rfl | exact hB | exact ld_blk hC rfl | exact ld_blk_a hC rfl rfl | exact hC | exact ld_blk hD rfl | exact ld_blk_a hD rfl rfl | exact hD | exact ld_blk hI rfl | exact ld_blk_a hI rfl rfl | exact hI | exact ld_blk hZ rfl | exact ld_blk_a hZ rfl rfl | exact hZ | exact ld_blk hY rfl | exact ld_blk_a hY rfl rfl | exact hY)) ?_
        refine xl_dec rfl rfl rfl (pv_eql rfl rfl rfl) (fun h8_14 => ?_) (fun h8_14 => ?_)
        · skip
          refine xl_pure rfl rfl rfl (pv_pick_t (v := .bool _) rfl rfl rfl) ?_
          refine xl_pure rfl rfl rfl (pv_move (v := .bool _) rfl rfl) ?_
          refine xl_pure rfl rfl rfl (pv_move (v := .int _ _) rfl rfl) ?_
          refine xl_dec rfl rfl rfl (pv_eql rfl rfl rfl) (fun h8_18 => ?_) (fun h8_18 => ?_)
          · skip
            refine xl_pure rfl rfl rfl (pv_pick_t (v := .bool _) rfl rfl rfl) ?_
            refine xl_pure rfl rfl rfl (pv_move (v := .bool _) rfl rfl) ?_
            refine xl_pure rfl rfl rfl (pv_move (v := .int _ _) rfl rfl) ?_
            refine xl_dec rfl rfl rfl (pv_eql rfl rfl rfl) (fun h8_22 => ?_) (fun h8_22 => ?_)
            · skip
              refine xl_pure rfl rfl rfl (pv_pick_t (v := .bool _) rfl rfl rfl) ?_
              refine xl_pure rfl rfl rfl (pv_move (v := .bool _) rfl rfl) ?_
              refine xl_pure rfl rfl rfl (pv_fieldAddr rfl rfl) ?_
              refine xl_light rfl rfl rfl (lv_load (v := .int _ _) rfl rfl (by first | exact ld_blk hA rfl | exact ld_blk_a hA rfl rfl | exact hA | exact ld_blk hB rfl | exact ld_blk_a hB rfl rfl | exact hB | exact ld_blk hC rfl | exact ld_blk_a hC rfl rfl | exact hC | exact ld_blk hD rfl | exact ld_blk_a hD rfl rfl | exact hD | exact ld_blk hI rfl | exact ld_blk_a hI rfl rfl | exact hI | exact ld_blk hZ rfl | exact ld_blk_a hZ rfl rfl | exact hZ | exact ld_blk hY rfl | exact ld_blk_a hY rfl rfl | exact hY)) ?_
              refine xl_dec rfl rfl rfl (pv_eql rfl rfl rfl) (fun h8_27 => ?_) (fun h8_27 => ?_)
              · skip
                refine xl_pure rfl rfl rfl (pv_pick_t (v := .bool _) rfl rfl rfl) ?_
                refine xl_pure rfl rfl rfl (pv_move (v := .bool _) rfl rfl) ?_
                refine xl_pure rfl rfl rfl (pv_move (v := .int _ _) rfl rfl) ?_
                refine xl_dec rfl rfl rfl (pv_eql rfl rfl rfl) (fun h8_31 => ?_) (fun h8_31 => ?_)
                · skip
                  refine xl_pure rfl rfl rfl (pv_pick_t (v := .bool _) rfl rfl rfl) ?_
                  refine xl_pure rfl rfl rfl (pv_move (v := .bool _) rfl rfl) ?_
                  refine xl_pure rfl rfl rfl (pv_move (v := .int _ _) rfl rfl) ?_
                  refine xl_dec rfl rfl rfl (pv_eql rfl rfl rfl) (fun h8_35 => ?_) (fun h8_35 => ?_)
                  · skip
                    refine xl_pure rfl rfl rfl (pv_pick_t (v := .bool _) rfl rfl rfl) ?_
                    refine xl_pure rfl rfl rfl (pv_move (v := .bool _) rfl rfl) ?_
                    refine xl_pure rfl rfl rfl (pv_fieldAddr rfl rfl) ?_
                    refine xl_light rfl rfl rfl (lv_load (v := .int _ _) rfl rfl (by first | exact ld_blk hA rfl | exact ld_blk_a hA rfl rfl | exact hA | exact ld_blk hB rfl | exact ld_blk_a hB rfl rfl | exact hB | exact ld_blk hC rfl | exact ld_blk_a hC rfl rfl | exact hC | exact ld_blk hD rfl | exact ld_blk_a hD rfl rfl | exact hD | exact ld_blk hI rfl | exact ld_blk_a hI rfl rfl | exact hI | exact ld_blk hZ rfl | exact ld_blk_a hZ rfl rfl | exact hZ | exact ld_blk hY rfl | exact ld_blk_a hY rfl rfl | exact hY)) ?_
                    refine xl_dec rfl rfl rfl (pv_eql rfl rfl rfl) (fun h8_40 => ?_) (fun h8_40 => ?_)
                    · skip
                      refine xl_pure rfl rfl rfl (pv_pick_t (v := .bool _) rfl rfl rfl) ?_
                      refine xl_pure rfl rfl rfl (pv_move (v := .bool _) rfl rfl) ?_
                      refine xl_pure rfl rfl rfl (pv_move (v := .int _ _) rfl rfl) ?_
                      refine xl_dec rfl rfl rfl (pv_eql rfl rfl rfl) (fun h8_44 => ?_) (fun h8_44 => ?_)
                      · skip
                        refine xl_pure rfl rfl rfl (pv_pick_t (v := .bool _) rfl rfl rfl) ?_
                        refine xl_pure rfl rfl rfl (pv_move (v := .bool _) rfl rfl) ?_
                        refine xl_pure rfl rfl rfl (pv_fieldAddr rfl rfl) ?_
                        refine xl_light rfl rfl rfl (lv_load (v := .int _ _) rfl rfl (by first | exact ld_blk hA rfl | exact ld_blk_a hA rfl rfl | exact hA | exact ld_blk hB rfl | exact ld_blk_a hB rfl rfl | exact hB | exact ld_blk hC rfl | exact ld_blk_a hC rfl rfl | exact hC | exact ld_blk hD rfl | exact ld_blk_a hD rfl rfl | exact hD | exact ld_blk hI rfl | exact ld_blk_a hI rfl rfl | exact hI | exact ld_blk hZ rfl | exact ld_blk_a hZ rfl rfl | exact hZ | exact ld_blk hY rfl | exact ld_blk_a hY rfl rfl | exact hY)) ?_
                        refine xl_dec rfl rfl rfl (pv_eql rfl rfl rfl) (fun h8_49 => ?_) (fun h8_49 => ?_)
                        · skip
                          refine xl_pure rfl rfl rfl (pv_pick_t (v := .bool _) rfl rfl rfl) ?_
                          refine xl_pure rfl rfl rfl (pv_move (v := .bool _) rfl rfl) ?_
                          refine xl_light rfl rfl rfl (lv_load (v := .agg _) rfl rfl (by first | exact ld_blk hA rfl | exact ld_blk_a hA rfl rfl | exact hA | exact ld_blk hB rfl | exact ld_blk_a hB rfl rfl | exact hB | exact ld_blk hC rfl | exact ld_blk_a hC rfl rfl | exact hC | exact ld_blk hD rfl | exact ld_blk_a hD rfl rfl | exact hD | exact ld_blk hI rfl | exact ld_blk_a hI rfl rfl | exact hI | exact ld_blk hZ rfl | exact ld_blk_a hZ rfl rfl | exact hZ | exact ld_blk hY rfl | exact ld_blk_a hY rfl rfl | exact hY)) ?_
                          refine xl_heavy rfl rfl rfl (hv_call (g := 11) rfl rfl (c11 JY a7_1 c7_1) rfl) ?_
                          rintro v8_53 H8_53 ⟨r8_53, rfl, hb8_53, hE8_53⟩
                          have hX := hX.trans hE8_53
                          have hA := hA.ext hE8_53
                          have hB := hB.ext hE8_53
                          have hC := hC.ext hE8_53
                          have hD := hD.ext hE8_53
                          have hI := hI.ext hE8_53
                          have hZ := hZ.ext hE8_53
                          have hY := hY.ext hE8_53
                          obtain rfl : r8_53 = false := by
                            cases r8_53 with
                            | false => rfl
                            | true => exact absurd (hb8_53.1 rfl) (by decide)
                          refine xl_pure rfl rfl rfl (pv_not rfl rfl) ?_
                          refine xl_pure rfl rfl rfl (pv_pick_t (v := .bool _) rfl rfl rfl) ?_
                          refine xl_pure rfl rfl rfl (pv_move (v := .bool _) rfl rfl) ?_
                          refine xl_light rfl rfl rfl (lv_load (v := .agg _) rfl rfl (by first | exact ld_blk hA rfl | exact ld_blk_a hA rfl rfl | exact hA | exact ld_blk hB rfl | exact ld_blk_a hB rfl rfl | exact hB | exact ld_blk hC rfl | exact ld_blk_a hC rfl rfl | exact hC | exact ld_blk hD rfl | exact ld_blk_a hD rfl rfl | exact hD | exact ld_blk hI rfl | exact ld_blk_a hI rfl rfl | exact hI | exact ld_blk hZ rfl | exact ld_blk_a hZ rfl rfl | exact hZ | exact ld_blk hY rfl | exact ld_blk_a hY rfl rfl | exact hY)) ?_
                          refine xl_heavy rfl rfl rfl (hv_call (g := 11) rfl rfl (c11 JX a6_1 c6_1) rfl) ?_
                          rintro v8_58 H8_58 ⟨r8_58, rfl, hb8_58, hE8_58⟩
                          have hX := hX.trans hE8_58
                          have hA := hA.ext hE8_58
                          have hB := hB.ext hE8_58
                          have hC := hC.ext hE8_58
                          have hD := hD.ext hE8_58
                          have hI := hI.ext hE8_58
                          have hZ := hZ.ext hE8_58
                          have hY := hY.ext hE8_58
                          obtain rfl : r8_58 = true := hb8_58.2 (by decide)
                          refine xl_pure rfl rfl rfl (pv_pick_t (v := .bool _) rfl rfl rfl) ?_
                          refine xl_pure rfl rfl rfl (pv_assign (v := .bool _) rfl rfl) ?_
                          refine xl_nil ?_
                          refine xthen_normal ?_
                          refine xc_ret ?_
                          refine fin_ret (res1 (v := .bool _) rfl rfl) ?_
                          exact ⟨rfl, hX⟩
                        · exact absurd (by decide) h8_49
                      · exact absurd (by decide) h8_44
                    · exact absurd (by decide) h8_40
                  · exact absurd (by decide) h8_35
                · exact absurd (by decide) h8_31
              · exact absurd (by decide) h8_27
            · exact absurd (by decide) h8_22
          · exact absurd (by decide) h8_18
        · exact absurd (by decide) h8_14
      · exact absurd (by decide) h8_9
    · exact absurd (by decide) h8_5
  · exact absurd (by decide) h8_1
end Go.XG
