/-
  Walks of the seat's functions over the logic XG: each function, what it computes. Printed by a program out of wip/walks.py.
-/
import Derived.Test.YtoabjfmegnjicaaI
import Derived.Test.YtoabjfmegnjicaaTo
import Derived.Test.YtoabjfmegnjicaaTa
import Derived.Test.YtoabjfmegnjicaaTb
import Derived.Test.YtoabjfmegnjicaaTc
import Derived.Test.YtoabjfmegnjicaaTd
import Derived.Test.YtoabjfmegnjicaaQ
import Derived.Test.YtoabjfmegnjicaaWa
import Derived.Test.YtoabjfmegnjicaaWb
import Derived.Test.YtoabjfmegnjicaaWc
import Derived.Test.YtoabjfmegnjicaaWd
import Derived.Test.YtoabjfmegnjicaaWe
import Derived.Test.YtoabjfmegnjicaaB
import Derived.Test.YtoabjfmegnjicaaWf
import Derived.Test.YtoabjfmegnjicaaD
import Derived.Test.YtoabjfmegnjicaaWg
import Derived.Test.YtoabjfmegnjicaaWh
import Derived.Test.YtoabjfmegnjicaaWi
import Derived.Test.YtoabjfmegnjicaaE
import Derived.Test.YtoabjfmegnjicaaWj
import Derived.Test.YtoabjfmegnjicaaWk
import Derived.Test.YtoabjfmegnjicaaWl
import Derived.Test.YtoabjfmegnjicaaWm
import Derived.Test.YtoabjfmegnjicaaWn
namespace Go.XG
open Go.Proofs
set_option maxRecDepth 4000
set_option maxHeartbeats 4000000
theorem c25n {O : Outer} {H : Heap} (k0 k1 k2 k3 : Int) (n : Int) :
    FnC Try.prog 25 #[.pointer none, .agg #[.int .i64 k0, .int .i64 k1, .int .i64 k2, .int .i64 k3], .int .i64 n] O H (fun v H' => v = .int .i64 1 ∧ Ext H H') := by
  refine fn_enter (A := [.pointer none, .agg #[.int .i64 k0, .int .i64 k1, .int .i64 k2, .int .i64 k3], .int .i64 n]) Try.func25 rfl rfl ?_
  have hX := Ext.refl H
  refine xc_seq ?_
  refine xc_region ?_
  refine xl_heavy rfl rfl rfl (hv_box rfl rfl) ?_
  rintro v0_0 H0_0 ⟨b0_0, rfl, hN0_0⟩
  have gb0_0 := hX.fresh hN0_0
  have hX := hX.trans hN0_0.ext
  have m0_0 := hN0_0.blk
  refine xl_pure rfl rfl rfl (pv_assign (v := .int _ _) rfl rfl) ?_
  refine xl_nil ?_
  refine xthen_normal ?_
  refine xc_seq ?_
  refine xc_block ?_
  refine xc_seq ?_
  refine xc_region ?_
  refine xl_pure rfl rfl rfl (pv_move (v := .pointer _) rfl rfl) ?_
  refine xl_pure rfl rfl rfl (pv_eql_nn rfl rfl rfl) ?_
  refine xl_pure rfl rfl rfl (pv_move (v := .bool _) rfl rfl) ?_
  refine xl_skip rfl rfl rfl ?_
  refine xl_skip rfl rfl rfl ?_
  refine xl_skip rfl rfl rfl ?_
  refine xl_pure rfl rfl rfl (pv_pick_t (v := .bool _) rfl rfl rfl) ?_
  refine xl_pure rfl rfl rfl (pv_move (v := .bool _) rfl rfl) ?_
  refine xl_skip rfl rfl rfl ?_
  refine xl_skip rfl rfl rfl ?_
  refine xl_pure rfl rfl rfl (pv_pick_t (v := .bool _) rfl rfl rfl) ?_
  refine xl_pure rfl rfl rfl (pv_assign (v := .bool _) rfl rfl) ?_
  refine xl_nil ?_
  refine xthen_normal ?_
  refine xc_cond_t rfl ?_
  refine xc_seq ?_
  refine xc_region ?_
  refine xl_pure rfl rfl rfl (pv_assign (v := .int _ _) rfl rfl) ?_
  refine xl_nil ?_
  refine xthen_normal ?_
  refine xc_ret ?_
  refine xblock_ret ?_
  refine xthen_ret ?_
  refine fin_ret (res1 (v := .int _ _) rfl rfl) ?_
  exact ⟨rfl, hX⟩

theorem c17n {O : Outer} {H : Heap} (k0 k1 k2 k3 : Int) (n : Int) :
    FnC Try.prog 17 #[.pointer none, .agg #[.int .i64 k0, .int .i64 k1, .int .i64 k2, .int .i64 k3], .int .i64 n] O H (fun v H' => v = .int .i64 1 ∧ Ext H H') := by
  refine fn_enter (A := [.pointer none, .agg #[.int .i64 k0, .int .i64 k1, .int .i64 k2, .int .i64 k3], .int .i64 n]) Try.func17 rfl rfl ?_
  have hX := Ext.refl H
  refine xc_seq ?_
  refine xc_region ?_
  refine xl_heavy rfl rfl rfl (hv_box rfl rfl) ?_
  rintro v0_0 H0_0 ⟨b0_0, rfl, hN0_0⟩
  have gb0_0 := hX.fresh hN0_0
  have hX := hX.trans hN0_0.ext
  have m0_0 := hN0_0.blk
  refine xl_pure rfl rfl rfl (pv_assign (v := .int _ _) rfl rfl) ?_
  refine xl_nil ?_
  refine xthen_normal ?_
  refine xc_seq ?_
  refine xc_block ?_
  refine xc_seq ?_
  refine xc_region ?_
  refine xl_pure rfl rfl rfl (pv_move (v := .pointer _) rfl rfl) ?_
  refine xl_pure rfl rfl rfl (pv_eql_nn rfl rfl rfl) ?_
  refine xl_pure rfl rfl rfl (pv_move (v := .bool _) rfl rfl) ?_
  refine xl_skip rfl rfl rfl ?_
  refine xl_skip rfl rfl rfl ?_
  refine xl_skip rfl rfl rfl ?_
  refine xl_pure rfl rfl rfl (pv_pick_t (v := .bool _) rfl rfl rfl) ?_
  refine xl_pure rfl rfl rfl (pv_move (v := .bool _) rfl rfl) ?_
  refine xl_skip rfl rfl rfl ?_
  refine xl_skip rfl rfl rfl ?_
  refine xl_pure rfl rfl rfl (pv_pick_t (v := .bool _) rfl rfl rfl) ?_
  refine xl_pure rfl rfl rfl (pv_assign (v := .bool _) rfl rfl) ?_
  refine xl_nil ?_
  refine xthen_normal ?_
  refine xc_cond_t rfl ?_
  refine xc_seq ?_
  refine xc_region ?_
  refine xl_pure rfl rfl rfl (pv_assign (v := .int _ _) rfl rfl) ?_
  refine xl_nil ?_
  refine xthen_normal ?_
  refine xc_ret ?_
  refine xblock_ret ?_
  refine xthen_ret ?_
  refine fin_ret (res1 (v := .int _ _) rfl rfl) ?_
  exact ⟨rfl, hX⟩

theorem c26n {O : Outer} {H : Heap} (k0 k1 k2 k3 : Int) (m0 m1 m2 m3 : Int) (n : Int) :
    FnC Try.prog 26 #[.pointer none, .agg #[.int .i64 k0, .int .i64 k1, .int .i64 k2, .int .i64 k3], .agg #[.int .i64 m0, .int .i64 m1, .int .i64 m2, .int .i64 m3], .int .i64 n] O H (fun v H' => v = .int .i64 1 ∧ Ext H H') := by
  refine fn_enter (A := [.pointer none, .agg #[.int .i64 k0, .int .i64 k1, .int .i64 k2, .int .i64 k3], .agg #[.int .i64 m0, .int .i64 m1, .int .i64 m2, .int .i64 m3], .int .i64 n]) Try.func26 rfl rfl ?_
  have hX := Ext.refl H
  refine xc_seq ?_
  refine xc_region ?_
  refine xl_heavy rfl rfl rfl (hv_box rfl rfl) ?_
  rintro v0_0 H0_0 ⟨b0_0, rfl, hN0_0⟩
  have gb0_0 := hX.fresh hN0_0
  have hX := hX.trans hN0_0.ext
  have m0_0 := hN0_0.blk
  refine xl_heavy rfl rfl rfl (hv_box rfl rfl) ?_
  rintro v0_1 H0_1 ⟨b0_1, rfl, hN0_1⟩
  have gb0_1 := hX.fresh hN0_1
  have nm0_0_0_1 := m0_0.apart hN0_1
  have m0_0 := m0_0.ext hN0_1.ext
  have hX := hX.trans hN0_1.ext
  have m0_1 := hN0_1.blk
  refine xl_pure rfl rfl rfl (pv_assign (v := .int _ _) rfl rfl) ?_
  refine xl_nil ?_
  refine xthen_normal ?_
  refine xc_seq ?_
  refine xc_seq ?_
  refine xc_region ?_
  refine xl_light rfl rfl rfl (lv_load (v := .agg _) rfl rfl (ld_blk_a m0_1 rfl rfl)) ?_
  refine xl_heavy rfl rfl rfl (hv_call (g := 34) rfl rfl (c34 m0 m1 m2 m3) rfl) ?_
  rintro v1_1 H1_1 ⟨hv1_1, hE1_1⟩
  have m0_0 := m0_0.ext hE1_1
  have m0_1 := m0_1.ext hE1_1
  have hX := hX.trans hE1_1
  rcases hv1_1 with ⟨hi1_1, rfl⟩ | ⟨hi1_1, rfl⟩
  · skip
    refine xl_pure rfl rfl rfl (pv_not rfl rfl) ?_
    refine xl_pure rfl rfl rfl (pv_move (v := .bool _) rfl rfl) ?_
    refine xl_pure rfl rfl rfl (pv_fieldAddr rfl rfl) ?_
    refine xl_light rfl rfl rfl (lv_load (v := .int _ _) rfl rfl (ld_blk m0_0 rfl)) ?_
    refine xl_pure rfl rfl rfl (pv_fieldAddr rfl rfl) ?_
    refine xl_light rfl rfl rfl (lv_load (v := .int _ _) rfl rfl (ld_blk m0_1 rfl)) ?_
    refine xl_ndec rfl rfl rfl (pv_neq rfl rfl rfl) (fun h1_8 => ?_) (fun h1_8 => ?_)
    · skip
      refine xl_pure rfl rfl rfl (pv_pick_f (v := .bool _) rfl rfl rfl) ?_
      refine xl_nil ?_
      refine xthen_normal ?_
      refine xc_cond_f rfl ?_
      refine xc_skip ?_
      refine xthen_normal ?_
      refine xc_seq ?_
      refine xc_region ?_
      refine xl_pure rfl rfl rfl (pv_move (v := .pointer _) rfl rfl) ?_
      refine xl_light rfl rfl rfl (lv_load (v := .agg _) rfl rfl (ld_blk_a m0_0 rfl rfl)) ?_
      refine xl_pure rfl rfl rfl (pv_move (v := .int _ _) rfl rfl) ?_
      refine xl_heavy rfl rfl rfl (hv_call (g := 17) rfl rfl (c17n _ _ _ _ _) rfl) ?_
      rintro v3_3 H3_3 ⟨rfl, hE3_3⟩
      have m0_0 := m0_0.ext hE3_3
      have m0_1 := m0_1.ext hE3_3
      have hX := hX.trans hE3_3
      refine xl_pure rfl rfl rfl (pv_assign (v := .int _ _) rfl rfl) ?_
      refine xl_nil ?_
      refine xthen_normal ?_
      refine xc_seq ?_
      refine xc_seq ?_
      refine xc_region ?_
      refine xl_pure rfl rfl rfl (pv_move (v := .int _ _) rfl rfl) ?_
      refine xl_dec rfl rfl rfl (pv_eql rfl rfl rfl) (fun h4_1 => ?_) (fun h4_1 => ?_)
      · exact absurd h4_1 (by decide)
      · skip
        refine xl_nil ?_
        refine xthen_normal ?_
        refine xc_cond_f rfl ?_
        refine xc_skip ?_
        refine xthen_normal ?_
        refine xc_seq ?_
        refine xc_region ?_
        refine xl_pure rfl rfl rfl (pv_move (v := .int _ _) rfl rfl) ?_
        refine xl_pure rfl rfl rfl (pv_assign (v := .int _ _) rfl rfl) ?_
        refine xl_nil ?_
        refine xthen_normal ?_
        refine xc_ret ?_
        refine fin_ret (res1 (v := .int _ _) rfl rfl) ?_
        exact ⟨rfl, hX⟩
    · skip
      refine xl_pure rfl rfl rfl (pv_pick_f (v := .bool _) rfl rfl rfl) ?_
      refine xl_nil ?_
      refine xthen_normal ?_
      refine xc_cond_t rfl ?_
      refine xc_seq ?_
      refine xc_region ?_
      refine xl_pure rfl rfl rfl (pv_assign (v := .int _ _) rfl rfl) ?_
      refine xl_nil ?_
      refine xthen_normal ?_
      refine xc_ret ?_
      refine xthen_ret ?_
      refine fin_ret (res1 (v := .int _ _) rfl rfl) ?_
      exact ⟨rfl, hX⟩
  · skip
    refine xl_pure rfl rfl rfl (pv_not rfl rfl) ?_
    refine xl_pure rfl rfl rfl (pv_move (v := .bool _) rfl rfl) ?_
    refine xl_skip rfl rfl rfl ?_
    refine xl_skip rfl rfl rfl ?_
    refine xl_skip rfl rfl rfl ?_
    refine xl_skip rfl rfl rfl ?_
    refine xl_skip rfl rfl rfl ?_
    refine xl_pure rfl rfl rfl (pv_pick_t (v := .bool _) rfl rfl rfl) ?_
    refine xl_nil ?_
    refine xthen_normal ?_
    refine xc_cond_t rfl ?_
    refine xc_seq ?_
    refine xc_region ?_
    refine xl_pure rfl rfl rfl (pv_assign (v := .int _ _) rfl rfl) ?_
    refine xl_nil ?_
    refine xthen_normal ?_
    refine xc_ret ?_
    refine xthen_ret ?_
    refine fin_ret (res1 (v := .int _ _) rfl rfl) ?_
    exact ⟨rfl, hX⟩

theorem c36n {O : Outer} {H : Heap} (k0 k1 k2 k3 : Int) {sa : Option Addr} {sn sc : Nat} {g : Nat} :
    FnC Try.prog 36 #[.pointer none, .agg #[.int .i64 k0, .int .i64 k1, .int .i64 k2, .int .i64 k3], .slice sa sn sc, .func (.func g) #[] #[]] O H (fun v H' => v = .int .i64 1 ∧ Ext H H') := by
  refine fn_enter (A := [.pointer none, .agg #[.int .i64 k0, .int .i64 k1, .int .i64 k2, .int .i64 k3], .slice sa sn sc, .func (.func g) #[] #[]]) Try.func36 rfl rfl ?_
  have hX := Ext.refl H
  refine xc_seq ?_
  refine xc_region ?_
  refine xl_heavy rfl rfl rfl (hv_box rfl rfl) ?_
  rintro v0_0 H0_0 ⟨b0_0, rfl, hN0_0⟩
  have gb0_0 := hX.fresh hN0_0
  have hX := hX.trans hN0_0.ext
  have m0_0 := hN0_0.blk
  refine xl_pure rfl rfl rfl (pv_assign (v := .int _ _) rfl rfl) ?_
  refine xl_nil ?_
  refine xthen_normal ?_
  refine xc_seq ?_
  refine xc_seq ?_
  refine xc_region ?_
  refine xl_pure rfl rfl rfl (pv_move (v := .pointer _) rfl rfl) ?_
  refine xl_pure rfl rfl rfl (pv_eql_nn rfl rfl rfl) ?_
  refine xl_pure rfl rfl rfl (pv_move (v := .bool _) rfl rfl) ?_
  refine xl_skip rfl rfl rfl ?_
  refine xl_skip rfl rfl rfl ?_
  refine xl_skip rfl rfl rfl ?_
  refine xl_skip rfl rfl rfl ?_
  refine xl_pure rfl rfl rfl (pv_pick_t (v := .bool _) rfl rfl rfl) ?_
  refine xl_pure rfl rfl rfl (pv_move (v := .bool _) rfl rfl) ?_
  refine xl_skip rfl rfl rfl ?_
  refine xl_skip rfl rfl rfl ?_
  refine xl_skip rfl rfl rfl ?_
  refine xl_pure rfl rfl rfl (pv_pick_t (v := .bool _) rfl rfl rfl) ?_
  refine xl_nil ?_
  refine xthen_normal ?_
  refine xc_cond_t rfl ?_
  refine xc_seq ?_
  refine xc_region ?_
  refine xl_pure rfl rfl rfl (pv_assign (v := .int _ _) rfl rfl) ?_
  refine xl_nil ?_
  refine xthen_normal ?_
  refine xc_ret ?_
  refine xthen_ret ?_
  refine fin_ret (res1 (v := .int _ _) rfl rfl) ?_
  exact ⟨rfl, hX⟩

theorem c15n {O : Outer} {H : Heap} (k0 k1 k2 k3 : Int) {sa : Option Addr} {sn sc : Nat} :
    FnC Try.prog 15 #[.pointer none, .agg #[.int .i64 k0, .int .i64 k1, .int .i64 k2, .int .i64 k3], .slice sa sn sc] O H (fun v H' => v = .int .i64 1 ∧ Ext H H') := by
  refine fn_enter (A := [.pointer none, .agg #[.int .i64 k0, .int .i64 k1, .int .i64 k2, .int .i64 k3], .slice sa sn sc]) Try.func15 rfl rfl ?_
  have hX := Ext.refl H
  refine xc_seq ?_
  refine xc_region ?_
  refine xl_heavy rfl rfl rfl (hv_box rfl rfl) ?_
  rintro v0_0 H0_0 ⟨b0_0, rfl, hN0_0⟩
  have gb0_0 := hX.fresh hN0_0
  have hX := hX.trans hN0_0.ext
  have m0_0 := hN0_0.blk
  refine xl_pure rfl rfl rfl (pv_assign (v := .int _ _) rfl rfl) ?_
  refine xl_nil ?_
  refine xthen_normal ?_
  refine xc_seq ?_
  refine xc_region ?_
  refine xl_pure rfl rfl rfl (pv_move (v := .pointer _) rfl rfl) ?_
  refine xl_light rfl rfl rfl (lv_load (v := .agg _) rfl rfl (ld_blk_a m0_0 rfl rfl)) ?_
  refine xl_pure rfl rfl rfl (pv_move (v := .slice _ _ _) rfl rfl) ?_
  refine xl_heavy rfl rfl rfl (hv_call (g := 36) rfl rfl (c36n _ _ _ _) rfl) ?_
  rintro v1_3 H1_3 ⟨rfl, hE1_3⟩
  have m0_0 := m0_0.ext hE1_3
  have hX := hX.trans hE1_3
  refine xl_pure rfl rfl rfl (pv_assign (v := .int _ _) rfl rfl) ?_
  refine xl_nil ?_
  refine xthen_normal ?_
  refine xc_ret ?_
  refine fin_ret (res1 (v := .int _ _) rfl rfl) ?_
  exact ⟨rfl, hX⟩

theorem c27n {O : Outer} {H : Heap} (k0 k1 k2 k3 : Int) {sa : Option Addr} {sn sc : Nat} :
    FnC Try.prog 27 #[.pointer none, .agg #[.int .i64 k0, .int .i64 k1, .int .i64 k2, .int .i64 k3], .slice sa sn sc] O H (fun v H' => v = .int .i64 1 ∧ Ext H H') := by
  refine fn_enter (A := [.pointer none, .agg #[.int .i64 k0, .int .i64 k1, .int .i64 k2, .int .i64 k3], .slice sa sn sc]) Try.func27 rfl rfl ?_
  have hX := Ext.refl H
  refine xc_seq ?_
  refine xc_region ?_
  refine xl_heavy rfl rfl rfl (hv_box rfl rfl) ?_
  rintro v0_0 H0_0 ⟨b0_0, rfl, hN0_0⟩
  have gb0_0 := hX.fresh hN0_0
  have hX := hX.trans hN0_0.ext
  have m0_0 := hN0_0.blk
  refine xl_pure rfl rfl rfl (pv_assign (v := .int _ _) rfl rfl) ?_
  refine xl_nil ?_
  refine xthen_normal ?_
  refine xc_seq ?_
  refine xc_region ?_
  refine xl_pure rfl rfl rfl (pv_move (v := .pointer _) rfl rfl) ?_
  refine xl_light rfl rfl rfl (lv_load (v := .agg _) rfl rfl (ld_blk_a m0_0 rfl rfl)) ?_
  refine xl_pure rfl rfl rfl (pv_move (v := .slice _ _ _) rfl rfl) ?_
  refine xl_heavy rfl rfl rfl (hv_call (g := 36) rfl rfl (c36n _ _ _ _) rfl) ?_
  rintro v1_3 H1_3 ⟨rfl, hE1_3⟩
  have m0_0 := m0_0.ext hE1_3
  have hX := hX.trans hE1_3
  refine xl_pure rfl rfl rfl (pv_assign (v := .int _ _) rfl rfl) ?_
  refine xl_nil ?_
  refine xthen_normal ?_
  refine xc_ret ?_
  refine fin_ret (res1 (v := .int _ _) rfl rfl) ?_
  exact ⟨rfl, hX⟩

theorem c20 {O : Outer} {H : Heap} {a : Option Addr} {c : Nat} {l : List (List Int)} (hx : RowsT H 74 5 a l) (hg : GooL l) (hl : l.length < 900000) (r : BAct) (hn : r.n < 9223372036854775808) (hS : Stks H r.sa r.s) (hsl : r.s.length < 1099511627776) :
    FnC Try.prog 20 #[.slice a l.length c, .agg #[.int .i64 r.k, .int .i64 r.n, .int .i64 r.a0, .int .i64 r.a1, .int .i64 r.a2, .int .i64 r.a3, .int .i64 r.b0, .int .i64 r.b1, .int .i64 r.b2, .int .i64 r.b3, .slice r.sa r.s.length r.sc]] O H (fun v H' => ∃ a' c', v = .tuple #[.slice a' (actX l r).length c', .int .i64 (actE l r)] ∧ RowsT H' 74 5 a' (actX l r) ∧ Ext H H') := by
  refine fn_enter (A := [.slice a l.length c, .agg #[.int .i64 r.k, .int .i64 r.n, .int .i64 r.a0, .int .i64 r.a1, .int .i64 r.a2, .int .i64 r.a3, .int .i64 r.b0, .int .i64 r.b1, .int .i64 r.b2, .int .i64 r.b3, .slice r.sa r.s.length r.sc]]) Try.func20 rfl rfl ?_
  have hX := Ext.refl H
  refine xc_seq ?_
  refine xc_region ?_
  refine xl_heavy rfl rfl rfl (hv_box rfl rfl) ?_
  rintro v0_0 H0_0 ⟨b0_0, rfl, hN0_0⟩
  have gb0_0 := hX.fresh hN0_0
  have hX := hX.trans hN0_0.ext
  have m0_0 := hN0_0.blk
  refine xl_pure rfl rfl rfl (pv_assign (v := .slice _ _ _) rfl rfl) ?_
  refine xl_pure rfl rfl rfl (pv_assign (v := .int _ _) rfl rfl) ?_
  refine xl_nil ?_
  refine xthen_normal ?_
  refine xc_seq ?_
  refine xc_seq ?_
  refine xc_region ?_
  refine xl_pure rfl rfl rfl (pv_fieldAddr rfl rfl) ?_
  refine xl_light rfl rfl rfl (lv_load (v := .int _ _) rfl rfl (ld_blk m0_0 rfl)) ?_
  refine xl_nil ?_
  refine xthen_normal ?_
  refine xc_block ?_
  refine xc_seq ?_
  refine xc_region ?_
  refine xl_dec rfl rfl rfl (pv_eql rfl rfl rfl) (fun h2_0 => ?_) (fun h2_0 => ?_)
  · skip
    refine xl_pure rfl rfl rfl (pv_assign (v := .bool _) rfl rfl) ?_
    refine xl_nil ?_
    refine xthen_normal ?_
    refine xc_cond_t rfl ?_
    refine xc_seq ?_
    refine xc_region ?_
    refine xl_pure rfl rfl rfl (pv_move (v := .slice _ _ _) rfl rfl) ?_
    refine xl_pure rfl rfl rfl (pv_fieldAddr rfl rfl) ?_
    refine xl_light rfl rfl rfl (lv_load (v := .agg _) rfl rfl (by exact ld_part (off := 0) (k := 2) (cs := [.int .i64 r.a0, .int .i64 r.a1, .int .i64 r.a2, .int .i64 r.a3]) m0_0.row rfl rfl rfl)) ?_
    refine xl_pure rfl rfl rfl (pv_fieldAddr rfl rfl) ?_
    refine xl_light rfl rfl rfl (lv_load (v := .int _ _) rfl rfl (ld_blk m0_0 rfl)) ?_
    refine xl_heavy rfl rfl rfl (hv_call (g := 40) rfl rfl (c40 (hx.ext hX) hg (by omega) r.a0 r.a1 r.a2 r.a3 r.n hn) rfl) ?_
    rintro v3_5 H3_5 ⟨a3_5, c3_5, rfl, hQ3_5, hE3_5⟩
    have m0_0 := m0_0.ext hE3_5
    have hX := hX.trans hE3_5
    refine xl_pure rfl rfl rfl (pv_extract (v := .slice _ _ _) rfl rfl rfl) ?_
    refine xl_pure rfl rfl rfl (pv_extract (v := .int _ _) rfl rfl rfl) ?_
    refine xl_pure rfl rfl rfl (pv_assign (v := .slice _ _ _) rfl rfl) ?_
    refine xl_pure rfl rfl rfl (pv_assign (v := .int _ _) rfl rfl) ?_
    refine xl_nil ?_
    refine xthen_normal ?_
    refine xc_ret ?_
    refine xblock_ret ?_
    refine xthen_ret ?_
    refine fin_ret (res2 (v := .slice _ _ _) (x := .int _ _) rfl rfl rfl) ?_
    obtain ⟨e1, e2⟩ := act1 (l := l) h2_0
    exact ⟨_, _, by rw [e1, e2], by rw [e2]; exact hQ3_5, hX⟩
  · skip
    refine xl_pure rfl rfl rfl (pv_assign (v := .bool _) rfl rfl) ?_
    refine xl_nil ?_
    refine xthen_normal ?_
    refine xc_cond_f rfl ?_
    refine xc_seq ?_
    refine xc_region ?_
    refine xl_dec rfl rfl rfl (pv_eql rfl rfl rfl) (fun h4_0 => ?_) (fun h4_0 => ?_)
    · skip
      refine xl_pure rfl rfl rfl (pv_assign (v := .bool _) rfl rfl) ?_
      refine xl_nil ?_
      refine xthen_normal ?_
      refine xc_cond_t rfl ?_
      refine xc_seq ?_
      refine xc_region ?_
      refine xl_pure rfl rfl rfl (pv_move (v := .slice _ _ _) rfl rfl) ?_
      refine xl_pure rfl rfl rfl (pv_fieldAddr rfl rfl) ?_
      refine xl_light rfl rfl rfl (lv_load (v := .agg _) rfl rfl (by exact ld_part (off := 0) (k := 2) (cs := [.int .i64 r.a0, .int .i64 r.a1, .int .i64 r.a2, .int .i64 r.a3]) m0_0.row rfl rfl rfl)) ?_
      refine xl_pure rfl rfl rfl (pv_fieldAddr rfl rfl) ?_
      refine xl_light rfl rfl rfl (lv_load (v := .int _ _) rfl rfl (ld_blk m0_0 rfl)) ?_
      refine xl_heavy rfl rfl rfl (hv_call (g := 41) rfl rfl (c41 (hx.ext hX) hg (by omega) r.a0 r.a1 r.a2 r.a3 r.n) rfl) ?_
      rintro v5_5 H5_5 ⟨a5_5, c5_5, rfl, hQ5_5, hE5_5⟩
      have m0_0 := m0_0.ext hE5_5
      have hX := hX.trans hE5_5
      refine xl_pure rfl rfl rfl (pv_extract (v := .slice _ _ _) rfl rfl rfl) ?_
      refine xl_pure rfl rfl rfl (pv_extract (v := .int _ _) rfl rfl rfl) ?_
      refine xl_pure rfl rfl rfl (pv_assign (v := .slice _ _ _) rfl rfl) ?_
      refine xl_pure rfl rfl rfl (pv_assign (v := .int _ _) rfl rfl) ?_
      refine xl_nil ?_
      refine xthen_normal ?_
      refine xc_ret ?_
      refine xblock_ret ?_
      refine xthen_ret ?_
      refine fin_ret (res2 (v := .slice _ _ _) (x := .int _ _) rfl rfl rfl) ?_
      obtain ⟨e1, e2⟩ := act2 (l := l) h2_0 h4_0
      exact ⟨_, _, by rw [e1, e2], by rw [e2]; exact hQ5_5, hX⟩
    · skip
      refine xl_pure rfl rfl rfl (pv_assign (v := .bool _) rfl rfl) ?_
      refine xl_nil ?_
      refine xthen_normal ?_
      refine xc_cond_f rfl ?_
      refine xc_seq ?_
      refine xc_region ?_
      refine xl_dec rfl rfl rfl (pv_eql rfl rfl rfl) (fun h6_0 => ?_) (fun h6_0 => ?_)
      · skip
        refine xl_pure rfl rfl rfl (pv_assign (v := .bool _) rfl rfl) ?_
        refine xl_nil ?_
        refine xthen_normal ?_
        refine xc_cond_t rfl ?_
        refine xc_seq ?_
        refine xc_region ?_
        refine xl_pure rfl rfl rfl (pv_move (v := .slice _ _ _) rfl rfl) ?_
        refine xl_pure rfl rfl rfl (pv_fieldAddr rfl rfl) ?_
        refine xl_light rfl rfl rfl (lv_load (v := .agg _) rfl rfl (by exact ld_part (off := 0) (k := 2) (cs := [.int .i64 r.a0, .int .i64 r.a1, .int .i64 r.a2, .int .i64 r.a3]) m0_0.row rfl rfl rfl)) ?_
        refine xl_pure rfl rfl rfl (pv_fieldAddr rfl rfl) ?_
        refine xl_light rfl rfl rfl (lv_load (v := .agg _) rfl rfl (by exact ld_part (off := 0) (k := 6) (cs := [.int .i64 r.b0, .int .i64 r.b1, .int .i64 r.b2, .int .i64 r.b3]) m0_0.row rfl rfl rfl)) ?_
        refine xl_pure rfl rfl rfl (pv_fieldAddr rfl rfl) ?_
        refine xl_light rfl rfl rfl (lv_load (v := .int _ _) rfl rfl (ld_blk m0_0 rfl)) ?_
        refine xl_heavy rfl rfl rfl (hv_call (g := 42) rfl rfl (c42 (hx.ext hX) hg hl r.a0 r.a1 r.a2 r.a3 r.b0 r.b1 r.b2 r.b3 r.n hn) rfl) ?_
        rintro v7_7 H7_7 ⟨a7_7, c7_7, rfl, hQ7_7, hE7_7⟩
        have m0_0 := m0_0.ext hE7_7
        have hX := hX.trans hE7_7
        refine xl_pure rfl rfl rfl (pv_extract (v := .slice _ _ _) rfl rfl rfl) ?_
        refine xl_pure rfl rfl rfl (pv_extract (v := .int _ _) rfl rfl rfl) ?_
        refine xl_pure rfl rfl rfl (pv_assign (v := .slice _ _ _) rfl rfl) ?_
        refine xl_pure rfl rfl rfl (pv_assign (v := .int _ _) rfl rfl) ?_
        refine xl_nil ?_
        refine xthen_normal ?_
        refine xc_ret ?_
        refine xblock_ret ?_
        refine xthen_ret ?_
        refine fin_ret (res2 (v := .slice _ _ _) (x := .int _ _) rfl rfl rfl) ?_
        obtain ⟨e1, e2⟩ := act3 (l := l) h2_0 h4_0 h6_0
        exact ⟨_, _, by rw [e1, e2], by rw [e2]; exact hQ7_7, hX⟩
      · skip
        refine xl_pure rfl rfl rfl (pv_assign (v := .bool _) rfl rfl) ?_
        refine xl_nil ?_
        refine xthen_normal ?_
        refine xc_cond_f rfl ?_
        refine xc_seq ?_
        refine xc_region ?_
        refine xl_dec rfl rfl rfl (pv_eql rfl rfl rfl) (fun h8_0 => ?_) (fun h8_0 => ?_)
        · skip
          refine xl_pure rfl rfl rfl (pv_assign (v := .bool _) rfl rfl) ?_
          refine xl_nil ?_
          refine xthen_normal ?_
          refine xc_cond_t rfl ?_
          refine xc_seq ?_
          refine xc_region ?_
          refine xl_pure rfl rfl rfl (pv_move (v := .slice _ _ _) rfl rfl) ?_
          refine xl_pure rfl rfl rfl (pv_fieldAddr rfl rfl) ?_
          refine xl_light rfl rfl rfl (lv_load (v := .agg _) rfl rfl (by exact ld_part (off := 0) (k := 2) (cs := [.int .i64 r.a0, .int .i64 r.a1, .int .i64 r.a2, .int .i64 r.a3]) m0_0.row rfl rfl rfl)) ?_
          refine xl_pure rfl rfl rfl (pv_fieldAddr rfl rfl) ?_
          refine xl_light rfl rfl rfl (lv_load (v := .slice _ _ _) rfl rfl (ld_blk m0_0 rfl)) ?_
          refine xl_heavy rfl rfl rfl (hv_call (g := 43) rfl rfl (c43 (hx.ext hX) hg hl r.a0 r.a1 r.a2 r.a3 (hS.ext hX) hsl) rfl) ?_
          rintro v9_5 H9_5 ⟨a9_5, c9_5, rfl, hQ9_5, hE9_5⟩
          have m0_0 := m0_0.ext hE9_5
          have hX := hX.trans hE9_5
          refine xl_pure rfl rfl rfl (pv_extract (v := .slice _ _ _) rfl rfl rfl) ?_
          refine xl_pure rfl rfl rfl (pv_extract (v := .int _ _) rfl rfl rfl) ?_
          refine xl_pure rfl rfl rfl (pv_assign (v := .slice _ _ _) rfl rfl) ?_
          refine xl_pure rfl rfl rfl (pv_assign (v := .int _ _) rfl rfl) ?_
          refine xl_nil ?_
          refine xthen_normal ?_
          refine xc_ret ?_
          refine xblock_ret ?_
          refine xthen_ret ?_
          refine fin_ret (res2 (v := .slice _ _ _) (x := .int _ _) rfl rfl rfl) ?_
          obtain ⟨e1, e2⟩ := act4 (l := l) h2_0 h4_0 h6_0 h8_0
          exact ⟨_, _, by rw [e1, e2], by rw [e2]; exact hQ9_5, hX⟩
        · skip
          refine xl_pure rfl rfl rfl (pv_assign (v := .bool _) rfl rfl) ?_
          refine xl_nil ?_
          refine xthen_normal ?_
          refine xc_cond_f rfl ?_
          refine xc_skip ?_
          refine xblock_normal ?_
          refine xthen_normal ?_
          refine xc_seq ?_
          refine xc_region ?_
          refine xl_pure rfl rfl rfl (pv_move (v := .slice _ _ _) rfl rfl) ?_
          refine xl_pure rfl rfl rfl (pv_fieldAddr rfl rfl) ?_
          refine xl_light rfl rfl rfl (lv_load (v := .agg _) rfl rfl (by exact ld_part (off := 0) (k := 2) (cs := [.int .i64 r.a0, .int .i64 r.a1, .int .i64 r.a2, .int .i64 r.a3]) m0_0.row rfl rfl rfl)) ?_
          refine xl_pure rfl rfl rfl (pv_fieldAddr rfl rfl) ?_
          refine xl_light rfl rfl rfl (lv_load (v := .slice _ _ _) rfl rfl (ld_blk m0_0 rfl)) ?_
          refine xl_heavy rfl rfl rfl (hv_call (g := 44) rfl rfl (c44 (hx.ext hX) hg hl r.a0 r.a1 r.a2 r.a3 (hS.ext hX) hsl) rfl) ?_
          rintro v10_5 H10_5 ⟨a10_5, c10_5, rfl, hQ10_5, hE10_5⟩
          have m0_0 := m0_0.ext hE10_5
          have hX := hX.trans hE10_5
          refine xl_pure rfl rfl rfl (pv_extract (v := .slice _ _ _) rfl rfl rfl) ?_
          refine xl_pure rfl rfl rfl (pv_extract (v := .int _ _) rfl rfl rfl) ?_
          refine xl_pure rfl rfl rfl (pv_assign (v := .slice _ _ _) rfl rfl) ?_
          refine xl_pure rfl rfl rfl (pv_assign (v := .int _ _) rfl rfl) ?_
          refine xl_nil ?_
          refine xthen_normal ?_
          refine xc_ret ?_
          refine fin_ret (res2 (v := .slice _ _ _) (x := .int _ _) rfl rfl rfl) ?_
          obtain ⟨e1, e2⟩ := act5 (l := l) h2_0 h4_0 h6_0 h8_0
          exact ⟨_, _, by rw [e1, e2], by rw [e2]; exact hQ10_5, hX⟩

theorem c9 {O : Outer} {H : Heap} {bp c : Nat} {a : Option Addr} {l : List (List Int)} {T : List Int} (mp : Blk H bp (.slice a (l).length c :: ints (T)) 62) (hR : RowsT H 88 5 a l) (hc : l.length ≤ c) (hna : a = none → c = 0) (hl : l.length < 900000) (hg : GooL l) (ht : Tots l T) (r : BAct) (hn : r.n < 9223372036854775808) (hS : StksO H bp r.sa r.s) (hsl : r.s.length < 1099511627776) :
    FnC Try.prog 9 #[.pointer (some ⟨bp, 0, none⟩), .agg #[.int .i64 r.k, .int .i64 r.n, .int .i64 r.a0, .int .i64 r.a1, .int .i64 r.a2, .int .i64 r.a3, .int .i64 r.b0, .int .i64 r.b1, .int .i64 r.b2, .int .i64 r.b3, .slice r.sa r.s.length r.sc]] O H (fun v H' => ∃ a' c' T', v = .int .i64 (actE l r) ∧ But bp H H' ∧ Blk H' bp (.slice a' (actX l r).length c' :: ints (T')) 62 ∧ RowsT H' 88 5 a' (actX l r) ∧ (actX l r).length ≤ c' ∧ (a' = none → c' = 0) ∧ Tots (actX l r) T') := by
  refine fn_enter (A := [.pointer (some ⟨bp, 0, none⟩), .agg #[.int .i64 r.k, .int .i64 r.n, .int .i64 r.a0, .int .i64 r.a1, .int .i64 r.a2, .int .i64 r.a3, .int .i64 r.b0, .int .i64 r.b1, .int .i64 r.b2, .int .i64 r.b3, .slice r.sa r.s.length r.sc]]) Try.func9 rfl rfl ?_
  have hX := But.refl bp H
  refine xc_seq ?_
  refine xc_region ?_
  refine xl_heavy rfl rfl rfl (hv_box rfl rfl) ?_
  rintro v0_0 H0_0 ⟨b0_0, rfl, hN0_0⟩
  have gb0_0 := hX.fresh hN0_0
  have nmp_0_0 := mp.apart hN0_0
  have mp := mp.ext hN0_0.ext
  have hR := hR.ext hN0_0.ext
  have hX := hX.transE hN0_0.ext
  have m0_0 := hN0_0.blk
  refine xl_pure rfl rfl rfl (pv_assign (v := .int _ _) rfl rfl) ?_
  refine xl_nil ?_
  refine xthen_normal ?_
  refine xc_seq ?_
  refine xc_seq ?_
  refine xc_region ?_
  refine xl_pure rfl rfl rfl (pv_fieldAddr rfl rfl) ?_
  refine xl_light rfl rfl rfl (lv_load (v := .int _ _) rfl rfl (ld_blk m0_0 rfl)) ?_
  refine xl_nil ?_
  refine xthen_normal ?_
  refine xc_block ?_
  refine xc_seq ?_
  refine xc_region ?_
  refine xl_dec rfl rfl rfl (pv_eql rfl rfl rfl) (fun h2_0 => ?_) (fun h2_0 => ?_)
  · skip
    refine xl_pure rfl rfl rfl (pv_assign (v := .bool _) rfl rfl) ?_
    refine xl_nil ?_
    refine xthen_normal ?_
    refine xc_cond_t rfl ?_
    refine xc_seq ?_
    refine xc_region ?_
    refine xl_pure rfl rfl rfl (pv_move (v := .pointer _) rfl rfl) ?_
    refine xl_pure rfl rfl rfl (pv_fieldAddr rfl rfl) ?_
    refine xl_light rfl rfl rfl (lv_load (v := .agg _) rfl rfl (by exact ld_part (off := 0) (k := 2) (cs := [.int .i64 r.a0, .int .i64 r.a1, .int .i64 r.a2, .int .i64 r.a3]) m0_0.row rfl rfl rfl)) ?_
    refine xl_pure rfl rfl rfl (pv_fieldAddr rfl rfl) ?_
    refine xl_light rfl rfl rfl (lv_load (v := .int _ _) rfl rfl (ld_blk m0_0 rfl)) ?_
    refine xl_heavy rfl rfl rfl (hv_call (g := 25) rfl rfl (c25 mp hR hc hna (by omega) hg ht r.a0 r.a1 r.a2 r.a3 r.n hn) rfl) ?_
    rintro v3_5 H3_5 ⟨a3_5, c3_5, T3_5, rfl, hB3_5, hT3_5, hR3_5, hc3_5, hna3_5, ht3_5⟩
    have hR := hR.offT mp hB3_5 (by first | rfl | assumption)
    have m0_0 := m0_0.off hB3_5 (by first | exact nmp_0_0.symm | exact ⟨m0_0.ne mp rfl⟩ | exact ⟨m0_0.ne mp (by assumption)⟩ | exact ⟨Ne.symm (mp.ne m0_0 (by assumption))⟩)
    have hX := hX.trans hB3_5
    have mp := hT3_5
    refine xl_pure rfl rfl rfl (pv_assign (v := .int _ _) rfl rfl) ?_
    refine xl_nil ?_
    refine xthen_normal ?_
    refine xc_ret ?_
    refine xblock_ret ?_
    refine xthen_ret ?_
    refine fin_ret (res1 (v := .int _ _) rfl rfl) ?_
    obtain ⟨e1, e2⟩ := act1 (l := l) h2_0
    exact ⟨_, _, _, by rw [e1], hX, by rw [e2]; exact mp, by rw [e2]; exact hR3_5, by rw [e2]; exact hc3_5, hna3_5, by rw [e2]; exact ht3_5⟩
  · skip
    refine xl_pure rfl rfl rfl (pv_assign (v := .bool _) rfl rfl) ?_
    refine xl_nil ?_
    refine xthen_normal ?_
    refine xc_cond_f rfl ?_
    refine xc_seq ?_
    refine xc_region ?_
    refine xl_dec rfl rfl rfl (pv_eql rfl rfl rfl) (fun h4_0 => ?_) (fun h4_0 => ?_)
    · skip
      refine xl_pure rfl rfl rfl (pv_assign (v := .bool _) rfl rfl) ?_
      refine xl_nil ?_
      refine xthen_normal ?_
      refine xc_cond_t rfl ?_
      refine xc_seq ?_
      refine xc_region ?_
      refine xl_pure rfl rfl rfl (pv_move (v := .pointer _) rfl rfl) ?_
      refine xl_pure rfl rfl rfl (pv_fieldAddr rfl rfl) ?_
      refine xl_light rfl rfl rfl (lv_load (v := .agg _) rfl rfl (by exact ld_part (off := 0) (k := 2) (cs := [.int .i64 r.a0, .int .i64 r.a1, .int .i64 r.a2, .int .i64 r.a3]) m0_0.row rfl rfl rfl)) ?_
      refine xl_pure rfl rfl rfl (pv_fieldAddr rfl rfl) ?_
      refine xl_light rfl rfl rfl (lv_load (v := .int _ _) rfl rfl (ld_blk m0_0 rfl)) ?_
      refine xl_heavy rfl rfl rfl (hv_call (g := 17) rfl rfl (c17 mp hR hc hna (by omega) hg ht r.a0 r.a1 r.a2 r.a3 r.n) rfl) ?_
      rintro v5_5 H5_5 ⟨a5_5, c5_5, T5_5, rfl, hB5_5, hT5_5, hR5_5, hc5_5, hna5_5, ht5_5⟩
      have hR := hR.offT mp hB5_5 (by first | rfl | assumption)
      have m0_0 := m0_0.off hB5_5 (by first | exact nmp_0_0.symm | exact ⟨m0_0.ne mp rfl⟩ | exact ⟨m0_0.ne mp (by assumption)⟩ | exact ⟨Ne.symm (mp.ne m0_0 (by assumption))⟩)
      have hX := hX.trans hB5_5
      have mp := hT5_5
      refine xl_pure rfl rfl rfl (pv_assign (v := .int _ _) rfl rfl) ?_
      refine xl_nil ?_
      refine xthen_normal ?_
      refine xc_ret ?_
      refine xblock_ret ?_
      refine xthen_ret ?_
      refine fin_ret (res1 (v := .int _ _) rfl rfl) ?_
      obtain ⟨e1, e2⟩ := act2 (l := l) h2_0 h4_0
      exact ⟨_, _, _, by rw [e1], hX, by rw [e2]; exact mp, by rw [e2]; exact hR5_5, by rw [e2]; exact hc5_5, hna5_5, by rw [e2]; exact ht5_5⟩
    · skip
      refine xl_pure rfl rfl rfl (pv_assign (v := .bool _) rfl rfl) ?_
      refine xl_nil ?_
      refine xthen_normal ?_
      refine xc_cond_f rfl ?_
      refine xc_seq ?_
      refine xc_region ?_
      refine xl_dec rfl rfl rfl (pv_eql rfl rfl rfl) (fun h6_0 => ?_) (fun h6_0 => ?_)
      · skip
        refine xl_pure rfl rfl rfl (pv_assign (v := .bool _) rfl rfl) ?_
        refine xl_nil ?_
        refine xthen_normal ?_
        refine xc_cond_t rfl ?_
        refine xc_seq ?_
        refine xc_region ?_
        refine xl_pure rfl rfl rfl (pv_move (v := .pointer _) rfl rfl) ?_
        refine xl_pure rfl rfl rfl (pv_fieldAddr rfl rfl) ?_
        refine xl_light rfl rfl rfl (lv_load (v := .agg _) rfl rfl (by exact ld_part (off := 0) (k := 2) (cs := [.int .i64 r.a0, .int .i64 r.a1, .int .i64 r.a2, .int .i64 r.a3]) m0_0.row rfl rfl rfl)) ?_
        refine xl_pure rfl rfl rfl (pv_fieldAddr rfl rfl) ?_
        refine xl_light rfl rfl rfl (lv_load (v := .agg _) rfl rfl (by exact ld_part (off := 0) (k := 6) (cs := [.int .i64 r.b0, .int .i64 r.b1, .int .i64 r.b2, .int .i64 r.b3]) m0_0.row rfl rfl rfl)) ?_
        refine xl_pure rfl rfl rfl (pv_fieldAddr rfl rfl) ?_
        refine xl_light rfl rfl rfl (lv_load (v := .int _ _) rfl rfl (ld_blk m0_0 rfl)) ?_
        refine xl_heavy rfl rfl rfl (hv_call (g := 26) rfl rfl (c26 mp hR hc hna (by omega) hg ht r.a0 r.a1 r.a2 r.a3 r.b0 r.b1 r.b2 r.b3 r.n) rfl) ?_
        rintro v7_7 H7_7 ⟨a7_7, c7_7, T7_7, rfl, hB7_7, hT7_7, hR7_7, hc7_7, hna7_7, ht7_7⟩
        have hR := hR.offT mp hB7_7 (by first | rfl | assumption)
        have m0_0 := m0_0.off hB7_7 (by first | exact nmp_0_0.symm | exact ⟨m0_0.ne mp rfl⟩ | exact ⟨m0_0.ne mp (by assumption)⟩ | exact ⟨Ne.symm (mp.ne m0_0 (by assumption))⟩)
        have hX := hX.trans hB7_7
        have mp := hT7_7
        refine xl_pure rfl rfl rfl (pv_assign (v := .int _ _) rfl rfl) ?_
        refine xl_nil ?_
        refine xthen_normal ?_
        refine xc_ret ?_
        refine xblock_ret ?_
        refine xthen_ret ?_
        refine fin_ret (res1 (v := .int _ _) rfl rfl) ?_
        obtain ⟨e1, e2⟩ := act3 (l := l) h2_0 h4_0 h6_0
        exact ⟨_, _, _, by rw [e1], hX, by rw [e2]; exact mp, by rw [e2]; exact hR7_7, by rw [e2]; exact hc7_7, hna7_7, by rw [e2]; exact ht7_7⟩
      · skip
        refine xl_pure rfl rfl rfl (pv_assign (v := .bool _) rfl rfl) ?_
        refine xl_nil ?_
        refine xthen_normal ?_
        refine xc_cond_f rfl ?_
        refine xc_seq ?_
        refine xc_region ?_
        refine xl_dec rfl rfl rfl (pv_eql rfl rfl rfl) (fun h8_0 => ?_) (fun h8_0 => ?_)
        · skip
          refine xl_pure rfl rfl rfl (pv_assign (v := .bool _) rfl rfl) ?_
          refine xl_nil ?_
          refine xthen_normal ?_
          refine xc_cond_t rfl ?_
          refine xc_seq ?_
          refine xc_region ?_
          refine xl_pure rfl rfl rfl (pv_move (v := .pointer _) rfl rfl) ?_
          refine xl_pure rfl rfl rfl (pv_fieldAddr rfl rfl) ?_
          refine xl_light rfl rfl rfl (lv_load (v := .agg _) rfl rfl (by exact ld_part (off := 0) (k := 2) (cs := [.int .i64 r.a0, .int .i64 r.a1, .int .i64 r.a2, .int .i64 r.a3]) m0_0.row rfl rfl rfl)) ?_
          refine xl_pure rfl rfl rfl (pv_fieldAddr rfl rfl) ?_
          refine xl_light rfl rfl rfl (lv_load (v := .slice _ _ _) rfl rfl (ld_blk m0_0 rfl)) ?_
          refine xl_heavy rfl rfl rfl (hv_call (g := 15) rfl rfl (c15 mp hR hc hna (by omega) hg ht r.a0 r.a1 r.a2 r.a3 (hS.butO hX) hsl) rfl) ?_
          rintro v9_5 H9_5 ⟨a9_5, c9_5, T9_5, rfl, hB9_5, hT9_5, hR9_5, hc9_5, hna9_5, ht9_5⟩
          have hR := hR.offT mp hB9_5 (by first | rfl | assumption)
          have m0_0 := m0_0.off hB9_5 (by first | exact nmp_0_0.symm | exact ⟨m0_0.ne mp rfl⟩ | exact ⟨m0_0.ne mp (by assumption)⟩ | exact ⟨Ne.symm (mp.ne m0_0 (by assumption))⟩)
          have hX := hX.trans hB9_5
          have mp := hT9_5
          refine xl_pure rfl rfl rfl (pv_assign (v := .int _ _) rfl rfl) ?_
          refine xl_nil ?_
          refine xthen_normal ?_
          refine xc_ret ?_
          refine xblock_ret ?_
          refine xthen_ret ?_
          refine fin_ret (res1 (v := .int _ _) rfl rfl) ?_
          obtain ⟨e1, e2⟩ := act4 (l := l) h2_0 h4_0 h6_0 h8_0
          exact ⟨_, _, _, by rw [e1], hX, by rw [e2]; exact mp, by rw [e2]; exact hR9_5, by rw [e2]; exact hc9_5, hna9_5, by rw [e2]; exact ht9_5⟩
        · skip
          refine xl_pure rfl rfl rfl (pv_assign (v := .bool _) rfl rfl) ?_
          refine xl_nil ?_
          refine xthen_normal ?_
          refine xc_cond_f rfl ?_
          refine xc_skip ?_
          refine xblock_normal ?_
          refine xthen_normal ?_
          refine xc_seq ?_
          refine xc_region ?_
          refine xl_pure rfl rfl rfl (pv_move (v := .pointer _) rfl rfl) ?_
          refine xl_pure rfl rfl rfl (pv_fieldAddr rfl rfl) ?_
          refine xl_light rfl rfl rfl (lv_load (v := .agg _) rfl rfl (by exact ld_part (off := 0) (k := 2) (cs := [.int .i64 r.a0, .int .i64 r.a1, .int .i64 r.a2, .int .i64 r.a3]) m0_0.row rfl rfl rfl)) ?_
          refine xl_pure rfl rfl rfl (pv_fieldAddr rfl rfl) ?_
          refine xl_light rfl rfl rfl (lv_load (v := .slice _ _ _) rfl rfl (ld_blk m0_0 rfl)) ?_
          refine xl_heavy rfl rfl rfl (hv_call (g := 27) rfl rfl (c27 mp hR hc hna (by omega) hg ht r.a0 r.a1 r.a2 r.a3 (hS.butO hX) hsl) rfl) ?_
          rintro v10_5 H10_5 ⟨a10_5, c10_5, T10_5, rfl, hB10_5, hT10_5, hR10_5, hc10_5, hna10_5, ht10_5⟩
          have hR := hR.offT mp hB10_5 (by first | rfl | assumption)
          have m0_0 := m0_0.off hB10_5 (by first | exact nmp_0_0.symm | exact ⟨m0_0.ne mp rfl⟩ | exact ⟨m0_0.ne mp (by assumption)⟩ | exact ⟨Ne.symm (mp.ne m0_0 (by assumption))⟩)
          have hX := hX.trans hB10_5
          have mp := hT10_5
          refine xl_pure rfl rfl rfl (pv_assign (v := .int _ _) rfl rfl) ?_
          refine xl_nil ?_
          refine xthen_normal ?_
          refine xc_ret ?_
          refine fin_ret (res1 (v := .int _ _) rfl rfl) ?_
          obtain ⟨e1, e2⟩ := act5 (l := l) h2_0 h4_0 h6_0 h8_0
          exact ⟨_, _, _, by rw [e1], hX, by rw [e2]; exact mp, by rw [e2]; exact hR10_5, by rw [e2]; exact hc10_5, hna10_5, by rw [e2]; exact ht10_5⟩

theorem c9n {O : Outer} {H : Heap} (r : BAct) :
    FnC Try.prog 9 #[.pointer none, .agg #[.int .i64 r.k, .int .i64 r.n, .int .i64 r.a0, .int .i64 r.a1, .int .i64 r.a2, .int .i64 r.a3, .int .i64 r.b0, .int .i64 r.b1, .int .i64 r.b2, .int .i64 r.b3, .slice r.sa r.s.length r.sc]] O H (fun v H' => v = .int .i64 1 ∧ Ext H H') := by
  refine fn_enter (A := [.pointer none, .agg #[.int .i64 r.k, .int .i64 r.n, .int .i64 r.a0, .int .i64 r.a1, .int .i64 r.a2, .int .i64 r.a3, .int .i64 r.b0, .int .i64 r.b1, .int .i64 r.b2, .int .i64 r.b3, .slice r.sa r.s.length r.sc]]) Try.func9 rfl rfl ?_
  have hX := Ext.refl H
  refine xc_seq ?_
  refine xc_region ?_
  refine xl_heavy rfl rfl rfl (hv_box rfl rfl) ?_
  rintro v0_0 H0_0 ⟨b0_0, rfl, hN0_0⟩
  have gb0_0 := hX.fresh hN0_0
  have hX := hX.trans hN0_0.ext
  have m0_0 := hN0_0.blk
  refine xl_pure rfl rfl rfl (pv_assign (v := .int _ _) rfl rfl) ?_
  refine xl_nil ?_
  refine xthen_normal ?_
  refine xc_seq ?_
  refine xc_seq ?_
  refine xc_region ?_
  refine xl_pure rfl rfl rfl (pv_fieldAddr rfl rfl) ?_
  refine xl_light rfl rfl rfl (lv_load (v := .int _ _) rfl rfl (ld_blk m0_0 rfl)) ?_
  refine xl_nil ?_
  refine xthen_normal ?_
  refine xc_block ?_
  refine xc_seq ?_
  refine xc_region ?_
  refine xl_dec rfl rfl rfl (pv_eql rfl rfl rfl) (fun h2_0 => ?_) (fun h2_0 => ?_)
  · skip
    refine xl_pure rfl rfl rfl (pv_assign (v := .bool _) rfl rfl) ?_
    refine xl_nil ?_
    refine xthen_normal ?_
    refine xc_cond_t rfl ?_
    refine xc_seq ?_
    refine xc_region ?_
    refine xl_pure rfl rfl rfl (pv_move (v := .pointer _) rfl rfl) ?_
    refine xl_pure rfl rfl rfl (pv_fieldAddr rfl rfl) ?_
    refine xl_light rfl rfl rfl (lv_load (v := .agg _) rfl rfl (by exact ld_part (off := 0) (k := 2) (cs := [.int .i64 r.a0, .int .i64 r.a1, .int .i64 r.a2, .int .i64 r.a3]) m0_0.row rfl rfl rfl)) ?_
    refine xl_pure rfl rfl rfl (pv_fieldAddr rfl rfl) ?_
    refine xl_light rfl rfl rfl (lv_load (v := .int _ _) rfl rfl (ld_blk m0_0 rfl)) ?_
    refine xl_heavy rfl rfl rfl (hv_call (g := 25) rfl rfl (c25n _ _ _ _ _) rfl) ?_
    rintro v3_5 H3_5 ⟨rfl, hE3_5⟩
    have m0_0 := m0_0.ext hE3_5
    have hX := hX.trans hE3_5
    refine xl_pure rfl rfl rfl (pv_assign (v := .int _ _) rfl rfl) ?_
    refine xl_nil ?_
    refine xthen_normal ?_
    refine xc_ret ?_
    refine xblock_ret ?_
    refine xthen_ret ?_
    refine fin_ret (res1 (v := .int _ _) rfl rfl) ?_
    exact ⟨rfl, hX⟩
  · skip
    refine xl_pure rfl rfl rfl (pv_assign (v := .bool _) rfl rfl) ?_
    refine xl_nil ?_
    refine xthen_normal ?_
    refine xc_cond_f rfl ?_
    refine xc_seq ?_
    refine xc_region ?_
    refine xl_dec rfl rfl rfl (pv_eql rfl rfl rfl) (fun h4_0 => ?_) (fun h4_0 => ?_)
    · skip
      refine xl_pure rfl rfl rfl (pv_assign (v := .bool _) rfl rfl) ?_
      refine xl_nil ?_
      refine xthen_normal ?_
      refine xc_cond_t rfl ?_
      refine xc_seq ?_
      refine xc_region ?_
      refine xl_pure rfl rfl rfl (pv_move (v := .pointer _) rfl rfl) ?_
      refine xl_pure rfl rfl rfl (pv_fieldAddr rfl rfl) ?_
      refine xl_light rfl rfl rfl (lv_load (v := .agg _) rfl rfl (by exact ld_part (off := 0) (k := 2) (cs := [.int .i64 r.a0, .int .i64 r.a1, .int .i64 r.a2, .int .i64 r.a3]) m0_0.row rfl rfl rfl)) ?_
      refine xl_pure rfl rfl rfl (pv_fieldAddr rfl rfl) ?_
      refine xl_light rfl rfl rfl (lv_load (v := .int _ _) rfl rfl (ld_blk m0_0 rfl)) ?_
      refine xl_heavy rfl rfl rfl (hv_call (g := 17) rfl rfl (c17n _ _ _ _ _) rfl) ?_
      rintro v5_5 H5_5 ⟨rfl, hE5_5⟩
      have m0_0 := m0_0.ext hE5_5
      have hX := hX.trans hE5_5
      refine xl_pure rfl rfl rfl (pv_assign (v := .int _ _) rfl rfl) ?_
      refine xl_nil ?_
      refine xthen_normal ?_
      refine xc_ret ?_
      refine xblock_ret ?_
      refine xthen_ret ?_
      refine fin_ret (res1 (v := .int _ _) rfl rfl) ?_
      exact ⟨rfl, hX⟩
    · skip
      refine xl_pure rfl rfl rfl (pv_assign (v := .bool _) rfl rfl) ?_
      refine xl_nil ?_
      refine xthen_normal ?_
      refine xc_cond_f rfl ?_
      refine xc_seq ?_
      refine xc_region ?_
      refine xl_dec rfl rfl rfl (pv_eql rfl rfl rfl) (fun h6_0 => ?_) (fun h6_0 => ?_)
      · skip
        refine xl_pure rfl rfl rfl (pv_assign (v := .bool _) rfl rfl) ?_
        refine xl_nil ?_
        refine xthen_normal ?_
        refine xc_cond_t rfl ?_
        refine xc_seq ?_
        refine xc_region ?_
        refine xl_pure rfl rfl rfl (pv_move (v := .pointer _) rfl rfl) ?_
        refine xl_pure rfl rfl rfl (pv_fieldAddr rfl rfl) ?_
        refine xl_light rfl rfl rfl (lv_load (v := .agg _) rfl rfl (by exact ld_part (off := 0) (k := 2) (cs := [.int .i64 r.a0, .int .i64 r.a1, .int .i64 r.a2, .int .i64 r.a3]) m0_0.row rfl rfl rfl)) ?_
        refine xl_pure rfl rfl rfl (pv_fieldAddr rfl rfl) ?_
        refine xl_light rfl rfl rfl (lv_load (v := .agg _) rfl rfl (by exact ld_part (off := 0) (k := 6) (cs := [.int .i64 r.b0, .int .i64 r.b1, .int .i64 r.b2, .int .i64 r.b3]) m0_0.row rfl rfl rfl)) ?_
        refine xl_pure rfl rfl rfl (pv_fieldAddr rfl rfl) ?_
        refine xl_light rfl rfl rfl (lv_load (v := .int _ _) rfl rfl (ld_blk m0_0 rfl)) ?_
        refine xl_heavy rfl rfl rfl (hv_call (g := 26) rfl rfl (c26n _ _ _ _ _ _ _ _ _) rfl) ?_
        rintro v7_7 H7_7 ⟨rfl, hE7_7⟩
        have m0_0 := m0_0.ext hE7_7
        have hX := hX.trans hE7_7
        refine xl_pure rfl rfl rfl (pv_assign (v := .int _ _) rfl rfl) ?_
        refine xl_nil ?_
        refine xthen_normal ?_
        refine xc_ret ?_
        refine xblock_ret ?_
        refine xthen_ret ?_
        refine fin_ret (res1 (v := .int _ _) rfl rfl) ?_
        exact ⟨rfl, hX⟩
      · skip
        refine xl_pure rfl rfl rfl (pv_assign (v := .bool _) rfl rfl) ?_
        refine xl_nil ?_
        refine xthen_normal ?_
        refine xc_cond_f rfl ?_
        refine xc_seq ?_
        refine xc_region ?_
        refine xl_dec rfl rfl rfl (pv_eql rfl rfl rfl) (fun h8_0 => ?_) (fun h8_0 => ?_)
        · skip
          refine xl_pure rfl rfl rfl (pv_assign (v := .bool _) rfl rfl) ?_
          refine xl_nil ?_
          refine xthen_normal ?_
          refine xc_cond_t rfl ?_
          refine xc_seq ?_
          refine xc_region ?_
          refine xl_pure rfl rfl rfl (pv_move (v := .pointer _) rfl rfl) ?_
          refine xl_pure rfl rfl rfl (pv_fieldAddr rfl rfl) ?_
          refine xl_light rfl rfl rfl (lv_load (v := .agg _) rfl rfl (by exact ld_part (off := 0) (k := 2) (cs := [.int .i64 r.a0, .int .i64 r.a1, .int .i64 r.a2, .int .i64 r.a3]) m0_0.row rfl rfl rfl)) ?_
          refine xl_pure rfl rfl rfl (pv_fieldAddr rfl rfl) ?_
          refine xl_light rfl rfl rfl (lv_load (v := .slice _ _ _) rfl rfl (ld_blk m0_0 rfl)) ?_
          refine xl_heavy rfl rfl rfl (hv_call (g := 15) rfl rfl (c15n _ _ _ _) rfl) ?_
          rintro v9_5 H9_5 ⟨rfl, hE9_5⟩
          have m0_0 := m0_0.ext hE9_5
          have hX := hX.trans hE9_5
          refine xl_pure rfl rfl rfl (pv_assign (v := .int _ _) rfl rfl) ?_
          refine xl_nil ?_
          refine xthen_normal ?_
          refine xc_ret ?_
          refine xblock_ret ?_
          refine xthen_ret ?_
          refine fin_ret (res1 (v := .int _ _) rfl rfl) ?_
          exact ⟨rfl, hX⟩
        · skip
          refine xl_pure rfl rfl rfl (pv_assign (v := .bool _) rfl rfl) ?_
          refine xl_nil ?_
          refine xthen_normal ?_
          refine xc_cond_f rfl ?_
          refine xc_skip ?_
          refine xblock_normal ?_
          refine xthen_normal ?_
          refine xc_seq ?_
          refine xc_region ?_
          refine xl_pure rfl rfl rfl (pv_move (v := .pointer _) rfl rfl) ?_
          refine xl_pure rfl rfl rfl (pv_fieldAddr rfl rfl) ?_
          refine xl_light rfl rfl rfl (lv_load (v := .agg _) rfl rfl (by exact ld_part (off := 0) (k := 2) (cs := [.int .i64 r.a0, .int .i64 r.a1, .int .i64 r.a2, .int .i64 r.a3]) m0_0.row rfl rfl rfl)) ?_
          refine xl_pure rfl rfl rfl (pv_fieldAddr rfl rfl) ?_
          refine xl_light rfl rfl rfl (lv_load (v := .slice _ _ _) rfl rfl (ld_blk m0_0 rfl)) ?_
          refine xl_heavy rfl rfl rfl (hv_call (g := 27) rfl rfl (c27n _ _ _ _) rfl) ?_
          rintro v10_5 H10_5 ⟨rfl, hE10_5⟩
          have m0_0 := m0_0.ext hE10_5
          have hX := hX.trans hE10_5
          refine xl_pure rfl rfl rfl (pv_assign (v := .int _ _) rfl rfl) ?_
          refine xl_nil ?_
          refine xthen_normal ?_
          refine xc_ret ?_
          refine fin_ret (res1 (v := .int _ _) rfl rfl) ?_
          exact ⟨rfl, hX⟩

theorem c18 {O : Outer} {H : Heap} {aA : Option Addr} {cA : Nat} {A : List BAct} (hA : Acts H aA A) (m : Int) (hm : m ≤ 1000) :
    FnC Try.prog 18 #[.slice aA A.length cA, .int .i64 m] O H (fun v H' => ∃ r, v = .bool r ∧ (r = true → (A.length : Nat) ≤ m ∧ ∀ i, i < A.length → (gA A i).s.length ≤ 12) ∧ H = H') := by
  refine fn_enter (A := [.slice aA A.length cA, .int .i64 m]) Try.func18 rfl rfl ?_
  have hX := Ext.refl H
  refine xc_seq ?_
  refine xc_region ?_
  refine xl_pure rfl rfl rfl (pv_assign (v := .bool _) rfl rfl) ?_
  refine xl_nil ?_
  refine xthen_normal ?_
  refine xc_seq ?_
  refine xc_seq ?_
  refine xc_region ?_
  refine xl_pure rfl rfl rfl (pv_assign (v := .int _ _) rfl rfl) ?_
  refine xl_nil ?_
  refine xthen_normal ?_
  refine xc_block ?_
  refine xc_loop (τ := Nat) (fun t => [(0, .slice aA A.length cA), (1, .int .i64 m), (5, .int .i64 (t : Nat))]) (fun t H' => (t ≤ A.length) ∧ (∀ j, j < t → (gA A j).s.length ≤ 12) ∧ (H = H') ∧ (Ext H H')) (fun t H' => A.length - t) 0 ?_ ?_ ?_
  · exact ⟨rfl, rfl, rfl, trivial⟩
  · skip
    exact ⟨Nat.zero_le _, fun j h => absurd h (by omega), rfl, hX⟩
  · intro σ
    clear hX
    rintro i Hl2 ⟨hi, hall, heq, hX⟩
    replace hi : i ≤ A.length := hi
    replace hall : ∀ j, j < i → (gA A j).s.length ≤ 12 := hall
    replace heq : H = Hl2 := heq
    replace hX : Ext H Hl2 := hX
    subst heq
    obtain ⟨bl, ofl, hAe⟩ := (hA.ext hX).at'
    show XC _ _ _ (upds σ [(0, .slice aA A.length cA), (1, .int .i64 m), (5, .int .i64 (i : Nat))]) _
    refine xc_seq ?_
    refine xc_seq ?_
    refine xc_region ?_
    refine xl_pure rfl rfl rfl (pv_move (v := .int _ _) rfl rfl) ?_
    refine xl_pure rfl rfl rfl (pv_move (v := .slice _ _ _) rfl rfl) ?_
    refine xl_pure rfl rfl rfl (pv_len_l rfl rfl) ?_
    refine xl_dec rfl rfl rfl (pv_lss rfl rfl rfl) (fun h2_3 => ?_) (fun h2_3 => ?_)
    · skip
      refine xl_pure rfl rfl rfl (pv_move (v := .bool _) rfl rfl) ?_
      refine xl_pure rfl rfl rfl (pv_move (v := .int _ _) rfl rfl) ?_
      refine xl_pure rfl rfl rfl (pv_move (v := .int _ _) rfl rfl) ?_
      refine xl_dec rfl rfl rfl (pv_lss rfl rfl rfl) (fun h2_7 => ?_) (fun h2_7 => ?_)
      · skip
        refine xl_pure rfl rfl rfl (pv_pick_t (v := .bool _) rfl rfl rfl) ?_
        refine xl_nil ?_
        refine xthen_normal ?_
        refine xc_cond_t rfl ?_
        refine xc_skip ?_
        refine xthen_normal ?_
        refine xc_seq ?_
        refine xc_block ?_
        refine xc_seq ?_
        have q1 : (gA A (i : Int).toNat).s.length = (gA A i).s.length := rfl
        refine xc_region ?_
        refine xl_pure rfl rfl rfl (pv_move (v := .slice _ _ _) rfl rfl) ?_
        refine xl_pure rfl rfl rfl (pv_move (v := .int _ _) rfl rfl) ?_
        refine xl_pure rfl rfl rfl (pv_indexAddr_l rfl (sl_eq (hAe (by omega)).1) rfl (by omega)) ?_
        refine xl_pure rfl rfl rfl (pv_fieldAddr rfl rfl) ?_
        refine xl_light rfl rfl rfl (lv_load (v := .slice _ _ _) rfl rfl (by exact ld_acell (hAe (by omega)).2 (by omega) (j := 10) rfl)) ?_
        refine xl_pure rfl rfl rfl (pv_len_l rfl rfl) ?_
        refine xl_dec rfl rfl rfl (pv_gtr rfl rfl rfl) (fun h4_6 => ?_) (fun h4_6 => ?_)
        · skip
          refine xl_nil ?_
          refine xthen_normal ?_
          refine xc_cond_t rfl ?_
          refine xc_seq ?_
          refine xc_region ?_
          refine xl_pure rfl rfl rfl (pv_assign (v := .bool _) rfl rfl) ?_
          refine xl_nil ?_
          refine xthen_normal ?_
          refine xc_ret ?_
          refine xblock_ret ?_
          refine xthen_ret ?_
          refine xthen_ret ?_
          refine xblock_ret ?_
          refine xthen_ret ?_
          refine fin_ret (res1 (v := .bool _) rfl rfl) ?_
          exact ⟨false, rfl, fun h => (by cases h), rfl⟩
        · skip
          refine xl_nil ?_
          refine xthen_normal ?_
          refine xc_cond_f rfl ?_
          refine xc_skip ?_
          refine xblock_normal ?_
          refine xthen_normal ?_
          refine xc_region ?_
          refine xl_pure rfl rfl rfl (pv_move (v := .int _ _) rfl rfl) ?_
          refine xl_pure rfl rfl rfl (pv_add rfl rfl rfl (fit_i64 (by omega))) ?_
          refine xl_pure rfl rfl rfl (pv_assign (v := .int _ _) rfl rfl) ?_
          refine xl_nil ?_
          refine xthen_normal ?_
          exact ⟨i + 1, ⟨rfl, rfl, rfl, trivial⟩, ⟨by (try simp only); omega, all_next hall (by have h := h4_6; omega), rfl, hX⟩, by (try simp only); omega⟩
      · skip
        refine xl_pure rfl rfl rfl (pv_pick_t (v := .bool _) rfl rfl rfl) ?_
        refine xl_nil ?_
        refine xthen_normal ?_
        refine xc_cond_f rfl ?_
        refine xc_exit ?_
        refine xthen_exit ?_
        refine xthen_exit ?_
        refine xblock_same ?_
        refine xthen_normal ?_
        refine xc_seq ?_
        refine xc_region ?_
        refine xl_pure rfl rfl rfl (pv_move (v := .slice _ _ _) rfl rfl) ?_
        refine xl_pure rfl rfl rfl (pv_len_l rfl rfl) ?_
        refine xl_pure rfl rfl rfl (pv_move (v := .int _ _) rfl rfl) ?_
        refine xl_dec rfl rfl rfl (pv_leq rfl rfl rfl) (fun h6_3 => ?_) (fun h6_3 => ?_)
        · skip
          refine xl_pure rfl rfl rfl (pv_assign (v := .bool _) rfl rfl) ?_
          refine xl_nil ?_
          refine xthen_normal ?_
          refine xc_ret ?_
          refine fin_ret (res1 (v := .bool _) rfl rfl) ?_
          first
            | exact ⟨true, rfl, fun _ => ⟨by omega, fun j hj => hall j (by omega)⟩, rfl⟩
            | exact ⟨false, rfl, fun h => (by cases h), rfl⟩
            | exact ⟨_, rfl, fun h => by have h2 := of_decide_eq_true h; exact ⟨h2, fun j hj => hall j (by omega)⟩, rfl⟩
        · skip
          refine xl_pure rfl rfl rfl (pv_assign (v := .bool _) rfl rfl) ?_
          refine xl_nil ?_
          refine xthen_normal ?_
          refine xc_ret ?_
          refine fin_ret (res1 (v := .bool _) rfl rfl) ?_
          first
            | exact ⟨true, rfl, fun _ => ⟨by omega, fun j hj => hall j (by omega)⟩, rfl⟩
            | exact ⟨false, rfl, fun h => (by cases h), rfl⟩
            | exact ⟨_, rfl, fun h => by have h2 := of_decide_eq_true h; exact ⟨h2, fun j hj => hall j (by omega)⟩, rfl⟩
    · skip
      refine xl_pure rfl rfl rfl (pv_move (v := .bool _) rfl rfl) ?_
      refine xl_skip rfl rfl rfl ?_
      refine xl_skip rfl rfl rfl ?_
      refine xl_skip rfl rfl rfl ?_
      refine xl_pure rfl rfl rfl (pv_pick_f (v := .bool _) rfl rfl rfl) ?_
      refine xl_nil ?_
      refine xthen_normal ?_
      refine xc_cond_f rfl ?_
      refine xc_exit ?_
      refine xthen_exit ?_
      refine xthen_exit ?_
      refine xblock_same ?_
      refine xthen_normal ?_
      refine xc_seq ?_
      refine xc_region ?_
      refine xl_pure rfl rfl rfl (pv_move (v := .slice _ _ _) rfl rfl) ?_
      refine xl_pure rfl rfl rfl (pv_len_l rfl rfl) ?_
      refine xl_pure rfl rfl rfl (pv_move (v := .int _ _) rfl rfl) ?_
      refine xl_dec rfl rfl rfl (pv_leq rfl rfl rfl) (fun h6_3 => ?_) (fun h6_3 => ?_)
      · skip
        refine xl_pure rfl rfl rfl (pv_assign (v := .bool _) rfl rfl) ?_
        refine xl_nil ?_
        refine xthen_normal ?_
        refine xc_ret ?_
        refine fin_ret (res1 (v := .bool _) rfl rfl) ?_
        first
          | exact ⟨true, rfl, fun _ => ⟨by omega, fun j hj => hall j (by omega)⟩, rfl⟩
          | exact ⟨false, rfl, fun h => (by cases h), rfl⟩
          | exact ⟨_, rfl, fun h => by have h2 := of_decide_eq_true h; exact ⟨h2, fun j hj => hall j (by omega)⟩, rfl⟩
      · skip
        refine xl_pure rfl rfl rfl (pv_assign (v := .bool _) rfl rfl) ?_
        refine xl_nil ?_
        refine xthen_normal ?_
        refine xc_ret ?_
        refine fin_ret (res1 (v := .bool _) rfl rfl) ?_
        first
          | exact ⟨true, rfl, fun _ => ⟨by omega, fun j hj => hall j (by omega)⟩, rfl⟩
          | exact ⟨false, rfl, fun h => (by cases h), rfl⟩
          | exact ⟨_, rfl, fun h => by have h2 := of_decide_eq_true h; exact ⟨h2, fun j hj => hall j (by omega)⟩, rfl⟩

theorem c11g {O : Outer} {H : Heap} {bp c : Nat} {a : Option Addr} {l : List (List Int)} {T : List Int} (mp : Blk H bp (.slice a (l).length c :: ints (T)) 62) (hR : RowsT H 88 5 a l) (hc : l.length ≤ c) (hna : a = none → c = 0) (hl : l.length < 1000000) (hg : GooL l) (ht : Tots l T) (t : Int) :
    FnC Try.prog 11 #[.pointer (some ⟨bp, 0, none⟩), .int .i64 t] O H (fun v H' => v = .int .i64 (totB l t) ∧ H = H') := by
  have htl := ht.len
  refine fn_enter (A := [.pointer (some ⟨bp, 0, none⟩), .int .i64 t]) Try.func11 rfl rfl ?_
  have hX := Ext.refl H
  refine xc_seq ?_
  refine xc_region ?_
  refine xl_pure rfl rfl rfl (pv_assign (v := .int _ _) rfl rfl) ?_
  refine xl_nil ?_
  refine xthen_normal ?_
  refine xc_seq ?_
  refine xc_seq ?_
  refine xc_region ?_
  refine xl_pure rfl rfl rfl (pv_move (v := .pointer _) rfl rfl) ?_
  refine xl_pure rfl rfl rfl (pv_eql_pn rfl rfl rfl) ?_
  refine xl_pure rfl rfl rfl (pv_move (v := .bool _) rfl rfl) ?_
  refine xl_pure rfl rfl rfl (pv_move (v := .int _ _) rfl rfl) ?_
  refine xl_heavy rfl rfl rfl (hv_call (g := 30) rfl rfl (c30 (t) (1) (32)) rfl) ?_
  rintro v1_4 H1_4 ⟨hv1_4, rfl⟩
  rcases hv1_4 with ⟨hi1_4, rfl⟩ | ⟨hi1_4, rfl⟩
  · skip
    refine xl_pure rfl rfl rfl (pv_not rfl rfl) ?_
    refine xl_pure rfl rfl rfl (pv_pick_f (v := .bool _) rfl rfl rfl) ?_
    refine xl_nil ?_
    refine xthen_normal ?_
    refine xc_cond_f rfl ?_
    refine xc_skip ?_
    refine xthen_normal ?_
    refine xc_seq ?_
    refine xc_region ?_
    refine xl_pure rfl rfl rfl (pv_move (v := .pointer _) rfl rfl) ?_
    refine xl_pure rfl rfl rfl (pv_move (v := .int _ _) rfl rfl) ?_
    refine xl_pure rfl rfl rfl (pv_nilCheck_p rfl rfl) ?_
    refine xl_pure rfl rfl rfl (pv_fieldAddr rfl rfl) ?_
    refine xl_pure rfl rfl rfl (pv_indexAddr_a rfl rfl rfl (by omega)) ?_
    refine xl_light rfl rfl rfl (lv_load (v := .int _ _) rfl rfl (by exact ld_tot mp (by omega))) ?_
    refine xl_pure rfl rfl rfl (pv_assign (v := .int _ _) rfl rfl) ?_
    refine xl_nil ?_
    refine xthen_normal ?_
    refine xc_ret ?_
    refine fin_ret (res1 (v := .int _ _) rfl rfl) ?_
    exact ⟨iv (by rw [← tot_eq hg ht, if_pos (by omega)]), rfl⟩
  · skip
    refine xl_pure rfl rfl rfl (pv_not rfl rfl) ?_
    refine xl_pure rfl rfl rfl (pv_pick_f (v := .bool _) rfl rfl rfl) ?_
    refine xl_nil ?_
    refine xthen_normal ?_
    refine xc_cond_t rfl ?_
    refine xc_seq ?_
    refine xc_region ?_
    refine xl_pure rfl rfl rfl (pv_assign (v := .int _ _) rfl rfl) ?_
    refine xl_nil ?_
    refine xthen_normal ?_
    refine xc_ret ?_
    refine xthen_ret ?_
    refine fin_ret (res1 (v := .int _ _) rfl rfl) ?_
    exact ⟨iv (by rw [← tot_eq hg ht, if_neg (by omega)]), rfl⟩
end Go.XG
