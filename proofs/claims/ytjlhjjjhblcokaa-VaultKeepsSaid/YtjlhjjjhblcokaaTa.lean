/-
  Walks of the seat's functions over the logic XG: each function, what it computes. Printed by a program out of wip/walks.py.
-/
import Derived.Test.YtjlhjjjhblcokaaI
import Derived.Test.YtjlhjjjhblcokaaXs
import Derived.Test.YtjlhjjjhblcokaaTo
namespace Go.XG
open Go.Proofs
set_option maxRecDepth 20000
set_option maxHeartbeats 4000000
theorem c105 {O : Outer} {H : Heap} (x : Int) :
    FnC Try.prog 105 #[.int .i64 x] O H (fun v H' => v = .bool false ∧ H = H') := by
  refine fn_enter (A := [.int .i64 x]) Try.func105 rfl rfl ?_
  have hX := Ext.refl H
  refine xc_seq ?_
  refine xc_region ?_
  refine xl_pure rfl rfl rfl (pv_assign (v := .bool _) rfl rfl) ?_
  refine xl_nil ?_
  refine xthen_normal ?_
  refine xc_seq ?_
  refine xc_region ?_
  refine xl_pure rfl rfl rfl (pv_move (v := .int _ _) rfl rfl) ?_
  refine xl_pure rfl rfl rfl (pv_move (v := .int _ _) rfl rfl) ?_
  refine xl_ndec rfl rfl rfl (pv_neq rfl rfl rfl) (fun h1_2 => ?_) (fun h1_2 => ?_)
  · skip
    refine xl_pure rfl rfl rfl (pv_assign (v := .bool _) rfl rfl) ?_
    refine xl_nil ?_
    refine xthen_normal ?_
    refine xc_ret ?_
    refine fin_ret (res1 (v := .bool _) rfl rfl) ?_
    exact ⟨rfl, rfl⟩
  · exact absurd rfl h1_2

theorem c103 {O : Outer} {H : Heap} (x y : Int) :
    FnC Try.prog 103 #[.int .i64 x, .int .i64 y] O H (fun v H' => v = .int .i64 (if x < y then -1 else if y < x then 1 else 0) ∧ H = H') := by
  refine fn_enter (A := [.int .i64 x, .int .i64 y]) Try.func103 rfl rfl ?_
  have hX := Ext.refl H
  refine xc_seq ?_
  refine xc_region ?_
  refine xl_pure rfl rfl rfl (pv_assign (v := .int _ _) rfl rfl) ?_
  refine xl_nil ?_
  refine xthen_normal ?_
  refine xc_seq ?_
  refine xc_region ?_
  refine xl_pure rfl rfl rfl (pv_move (v := .int _ _) rfl rfl) ?_
  refine xl_heavy rfl rfl rfl (hv_call (g := 105) rfl rfl (c105 _) rfl) ?_
  rintro v1_1 H1_1 ⟨rfl, rfl⟩
  refine xl_pure rfl rfl rfl (pv_assign (v := .bool _) rfl rfl) ?_
  refine xl_nil ?_
  refine xthen_normal ?_
  refine xc_seq ?_
  refine xc_region ?_
  refine xl_pure rfl rfl rfl (pv_move (v := .int _ _) rfl rfl) ?_
  refine xl_heavy rfl rfl rfl (hv_call (g := 105) rfl rfl (c105 _) rfl) ?_
  rintro v2_1 H2_1 ⟨rfl, rfl⟩
  refine xl_pure rfl rfl rfl (pv_assign (v := .bool _) rfl rfl) ?_
  refine xl_nil ?_
  refine xthen_normal ?_
  refine xc_seq ?_
  refine xc_seq ?_
  refine xc_region ?_
  refine xl_pure rfl rfl rfl (pv_move (v := .bool _) rfl rfl) ?_
  refine xl_nil ?_
  refine xthen_normal ?_
  refine xc_cond_f rfl ?_
  refine xc_skip ?_
  refine xthen_normal ?_
  refine xc_seq ?_
  refine xc_seq ?_
  refine xc_region ?_
  refine xl_pure rfl rfl rfl (pv_move (v := .bool _) rfl rfl) ?_
  refine xl_nil ?_
  refine xthen_normal ?_
  refine xc_cond_f rfl ?_
  refine xc_skip ?_
  refine xthen_normal ?_
  refine xc_seq ?_
  refine xc_seq ?_
  refine xc_region ?_
  refine xl_pure rfl rfl rfl (pv_move (v := .int _ _) rfl rfl) ?_
  refine xl_pure rfl rfl rfl (pv_move (v := .int _ _) rfl rfl) ?_
  refine xl_dec rfl rfl rfl (pv_lss rfl rfl rfl) (fun h9_2 => ?_) (fun h9_2 => ?_)
  · skip
    refine xl_nil ?_
    refine xthen_normal ?_
    refine xc_cond_t rfl ?_
    refine xc_seq ?_
    refine xc_region ?_
    refine xl_pure rfl rfl rfl (pv_assign (v := .int _ _) rfl rfl) ?_
    refine xl_nil ?_
    refine xthen_normal ?_
    refine xc_ret ?_
    refine xthen_ret ?_
    refine fin_ret (res1 (v := .int _ _) rfl rfl) ?_
    exact ⟨iv (by rw [if_pos (by omega)]), rfl⟩
  · skip
    refine xl_nil ?_
    refine xthen_normal ?_
    refine xc_cond_f rfl ?_
    refine xc_skip ?_
    refine xthen_normal ?_
    refine xc_seq ?_
    refine xc_seq ?_
    refine xc_region ?_
    refine xl_pure rfl rfl rfl (pv_move (v := .int _ _) rfl rfl) ?_
    refine xl_pure rfl rfl rfl (pv_move (v := .int _ _) rfl rfl) ?_
    refine xl_dec rfl rfl rfl (pv_gtr rfl rfl rfl) (fun h11_2 => ?_) (fun h11_2 => ?_)
    · skip
      refine xl_nil ?_
      refine xthen_normal ?_
      refine xc_cond_t rfl ?_
      refine xc_seq ?_
      refine xc_region ?_
      refine xl_pure rfl rfl rfl (pv_assign (v := .int _ _) rfl rfl) ?_
      refine xl_nil ?_
      refine xthen_normal ?_
      refine xc_ret ?_
      refine xthen_ret ?_
      refine fin_ret (res1 (v := .int _ _) rfl rfl) ?_
      exact ⟨iv (by rw [if_neg (by omega), if_pos (by omega)]), rfl⟩
    · skip
      refine xl_nil ?_
      refine xthen_normal ?_
      refine xc_cond_f rfl ?_
      refine xc_skip ?_
      refine xthen_normal ?_
      refine xc_seq ?_
      refine xc_region ?_
      refine xl_pure rfl rfl rfl (pv_assign (v := .int _ _) rfl rfl) ?_
      refine xl_nil ?_
      refine xthen_normal ?_
      refine xc_ret ?_
      refine fin_ret (res1 (v := .int _ _) rfl rfl) ?_
      exact ⟨iv (by rw [if_neg (by omega), if_neg (by omega)]), rfl⟩

theorem c98 {O : Outer} {H : Heap} (a b : List Int) (ha : a.length = 4) (hb : b.length = 4) :
    FnC Try.prog 98 #[.agg (ints a).toArray, .agg (ints b).toArray] O H (fun v H' => v = .int .i64 (kcmp a b) ∧ Ext H H') := by
  refine fn_enter (A := [.agg (ints a).toArray, .agg (ints b).toArray]) Try.func98 rfl rfl ?_
  have hX := Ext.refl H
  refine xc_seq ?_
  refine xc_region ?_
  refine xl_heavy rfl rfl rfl (hv_box rfl rfl) ?_
  rintro v0_0 H0_0 ⟨b0_0, rfl, hN0_0⟩
  have gb0_0 := hX.fresh hN0_0
  have hX := hX.trans hN0_0.ext
  have m0_0 := hN0_0.blk
  refine xl_heavy rfl rfl rfl (hv_box rfl rfl) ?_
  rintro v0_1 H0_1 ⟨b0_1, rfl, hN0_1⟩
  have gb0_1 := hX.fresh hN0_1
  have nm0_0_0_1 := m0_0.apart hN0_1
  have m0_0 := m0_0.ext hN0_1.ext
  have hX := hX.trans hN0_1.ext
  have m0_1 := hN0_1.blk
  refine xl_pure rfl rfl rfl (pv_assign (v := .int _ _) rfl rfl) ?_
  refine xl_nil ?_
  refine xthen_normal ?_
  refine xc_seq ?_
  refine xc_seq ?_
  refine xc_region ?_
  refine xl_light rfl rfl rfl (lv_load (v := .agg _) rfl rfl (ld_blk_a m0_0 rfl (ints_ten ha))) ?_
  refine xl_light rfl rfl rfl (lv_load (v := .agg _) rfl rfl (ld_blk_a m0_1 rfl (ints_ten hb))) ?_
  refine xl_dec rfl rfl rfl (pv_eql_ai a b rfl rfl rfl ha hb) (fun h1_2 => ?_) (fun h1_2 => ?_)
  · skip
    refine xl_nil ?_
    refine xthen_normal ?_
    refine xc_cond_t rfl ?_
    refine xc_seq ?_
    refine xc_region ?_
    refine xl_pure rfl rfl rfl (pv_assign (v := .int _ _) rfl rfl) ?_
    refine xl_nil ?_
    refine xthen_normal ?_
    refine xc_ret ?_
    refine xthen_ret ?_
    refine fin_ret (res1 (v := .int _ _) rfl rfl) ?_
    exact ⟨iv (by rw [h1_2]; exact (kcmp_self _).symm), hX⟩
  · skip
    refine xl_nil ?_
    refine xthen_normal ?_
    refine xc_cond_f rfl ?_
    refine xc_skip ?_
    refine xthen_normal ?_
    refine xc_seq ?_
    refine xc_seq ?_
    refine xc_region ?_
    refine xl_pure rfl rfl rfl (pv_move (v := .int _ _) rfl rfl) ?_
    refine xl_nil ?_
    refine xthen_normal ?_
    refine xc_block ?_
    refine xc_loop (τ := Nat) (fun t => [(2, .pointer (some ⟨b0_0, 0, none⟩)), (3, .pointer (some ⟨b0_1, 0, none⟩)), (10, .int .i64 (t : Nat))]) (fun t H' => (t ≤ 4) ∧ (kcmp a b = kcmp (a.drop t) (b.drop t)) ∧ (Blk H' b0_0 (ints a) 103) ∧ (Blk H' b0_1 (ints b) 103) ∧ (Ext H H')) (fun t H' => 4 - t) 0 ?_ ?_ ?_
    · exact ⟨rfl, rfl, rfl, trivial⟩
    · skip
      exact ⟨Nat.zero_le _, rfl, m0_0, m0_1, hX⟩
    · intro σ
      clear hX m0_0 m0_1
      rintro k Hl4 ⟨hk, heq, m0_0, m0_1, hX⟩
      replace hk : k ≤ 4 := hk
      replace heq : kcmp a b = kcmp (a.drop k) (b.drop k) := heq
      replace m0_0 : Blk Hl4 b0_0 (ints a) 103 := m0_0
      replace m0_1 : Blk Hl4 b0_1 (ints b) 103 := m0_1
      replace hX : Ext H Hl4 := hX
      show XC _ _ _ (upds σ [(2, .pointer (some ⟨b0_0, 0, none⟩)), (3, .pointer (some ⟨b0_1, 0, none⟩)), (10, .int .i64 (k : Nat))]) _
      refine xc_seq ?_
      refine xc_region ?_
      refine xl_dec rfl rfl rfl (pv_lss rfl rfl rfl) (fun h4_0 => ?_) (fun h4_0 => ?_)
      · skip
        refine xl_nil ?_
        refine xthen_normal ?_
        refine xc_seq ?_
        refine xc_cond_t rfl ?_
        refine xc_skip ?_
        refine xthen_normal ?_
        refine xc_seq ?_
        refine xc_block ?_
        refine xc_seq ?_
        refine xc_region ?_
        refine xl_pure rfl rfl rfl (pv_move (v := .int _ _) rfl rfl) ?_
        refine xl_pure rfl rfl rfl (pv_assign (v := .int _ _) rfl rfl) ?_
        refine xl_nil ?_
        refine xthen_normal ?_
        refine xc_seq ?_
        refine xp_start rfl (by repeat (first | with_reducible exact np_fin | with_reducible exact np_ret | with_reducible refine np_then ?_ | with_reducible refine np_block ?_)) (by kernel_rfl) ?_
        refine xp_pure (i := 0) rfl (by kernel_rfl) (by kernel_rfl) rfl rfl rfl (pv_move (v := .int _ _) rfl rfl) ?_
        refine xp_pure (i := 1) rfl (by kernel_rfl) (by kernel_rfl) rfl rfl rfl (pv_indexAddr_a rfl rfl rfl (by omega)) ?_
        refine xp_light (i := 2) rfl (by kernel_rfl) (by kernel_rfl) rfl rfl rfl (lv_load (v := .int _ _) rfl rfl (by exact ld_int m0_0 (by omega))) ?_
        refine xp_pure (i := 3) rfl (by kernel_rfl) (by kernel_rfl) rfl rfl rfl (pv_move (v := .int _ _) rfl rfl) ?_
        refine xp_pure (i := 4) rfl (by kernel_rfl) (by kernel_rfl) rfl rfl rfl (pv_indexAddr_a rfl rfl rfl (by omega)) ?_
        refine xp_light (i := 5) rfl (by kernel_rfl) (by kernel_rfl) rfl rfl rfl (lv_load (v := .int _ _) rfl rfl (by exact ld_int m0_1 (by omega))) ?_
        refine xp_heavy (i := 6) (by kernel_rfl) ?_
        refine xph_val rfl rfl rfl rfl (hv_call (g := 103) rfl rfl (c103 _ _) rfl) (pd (by kernel_rfl) (pd (by kernel_rfl) pn)) ?_
        rintro v6_6 H6_6 ⟨rfl, rfl⟩
        refine ⟨okn, ?_⟩
        refine xp_pure (i := 7) rfl (by kernel_rfl) (by kernel_rfl) rfl rfl rfl (pv_assign (v := .int _ _) rfl rfl) ?_
        refine xp_done (by kernel_rfl) ?_
        refine xthen_normal ?_
        refine xc_seq ?_
        refine xc_region ?_
        refine xl_pure rfl rfl rfl (pv_move (v := .int _ _) rfl rfl) ?_
        refine xl_ndec rfl rfl rfl (pv_neq rfl rfl rfl) (fun h7_1 => ?_) (fun h7_1 => ?_)
        · skip
          refine xl_nil ?_
          refine xthen_normal ?_
          refine xc_cond_f rfl ?_
          refine xc_skip ?_
          refine xblock_normal ?_
          refine xthen_normal ?_
          refine xc_region ?_
          refine xl_pure rfl rfl rfl (pv_add rfl rfl rfl (fit_i64 (by omega))) ?_
          refine xl_pure rfl rfl rfl (pv_move (v := .int _ _) rfl rfl) ?_
          refine xl_nil ?_
          refine xthen_normal ?_
          exact ⟨k + 1, ⟨rfl, rfl, rfl, trivial⟩, ⟨by (try simp only); omega, heq.trans ((kcmp_drop (by omega) (by omega)).trans (kc_eq h7_1)), m0_0, m0_1, hX⟩, by (try simp only); omega⟩
        · skip
          refine xl_nil ?_
          refine xthen_normal ?_
          refine xc_cond_t rfl ?_
          refine xc_seq ?_
          refine xc_region ?_
          refine xl_pure rfl rfl rfl (pv_move (v := .int _ _) rfl rfl) ?_
          refine xl_pure rfl rfl rfl (pv_assign (v := .int _ _) rfl rfl) ?_
          refine xl_nil ?_
          refine xthen_normal ?_
          refine xc_ret ?_
          refine xblock_ret ?_
          refine xthen_ret ?_
          refine xthen_ret ?_
          refine xblock_ret ?_
          refine xthen_ret ?_
          refine fin_ret (res1 (v := .int _ _) rfl rfl) ?_
          exact ⟨iv (by rw [heq, kcmp_drop (by omega) (by omega)]; exact kc_ne h7_1), hX⟩
      · skip
        refine xl_nil ?_
        refine xthen_normal ?_
        refine xc_seq ?_
        refine xc_cond_f rfl ?_
        refine xc_exit ?_
        refine xthen_exit ?_
        refine xthen_exit ?_
        refine xblock_same ?_
        refine xthen_normal ?_
        refine xc_seq ?_
        refine xc_region ?_
        refine xl_pure rfl rfl rfl (pv_assign (v := .int _ _) rfl rfl) ?_
        refine xl_nil ?_
        refine xthen_normal ?_
        refine xc_ret ?_
        refine fin_ret (res1 (v := .int _ _) rfl rfl) ?_
        exact ⟨iv (by rw [heq, kcmp_end (by omega)]), hX⟩

theorem c91 {O : Outer} {H : Heap} {bt t n c : Nat} {rest : List Value} {a : Option Addr} (mt : Blk H bt (.slice a n c :: rest) t) :
    FnC Try.prog 91 #[.pointer (some ⟨bt, 0, none⟩)] O H (fun v H' => v = .slice a n c ∧ H = H') := by
  refine fn_enter (A := [.pointer (some ⟨bt, 0, none⟩)]) Try.func91 rfl rfl ?_
  have hX := Ext.refl H
  refine xc_seq ?_
  refine xc_region ?_
  refine xl_pure rfl rfl rfl (pv_assign (v := .slice _ _ _) rfl rfl) ?_
  refine xl_nil ?_
  refine xthen_normal ?_
  refine xc_seq ?_
  refine xc_seq ?_
  refine xc_region ?_
  refine xl_pure rfl rfl rfl (pv_move (v := .pointer _) rfl rfl) ?_
  refine xl_pure rfl rfl rfl (pv_eql_pn rfl rfl rfl) ?_
  refine xl_nil ?_
  refine xthen_normal ?_
  refine xc_cond_f rfl ?_
  refine xc_skip ?_
  refine xthen_normal ?_
  refine xc_seq ?_
  refine xc_region ?_
  refine xl_pure rfl rfl rfl (pv_move (v := .pointer _) rfl rfl) ?_
  refine xl_pure rfl rfl rfl (pv_nilCheck_p rfl rfl) ?_
  refine xl_pure rfl rfl rfl (pv_fieldAddr rfl rfl) ?_
  refine xl_light rfl rfl rfl (lv_load (v := .slice _ _ _) rfl rfl (ld_blk mt rfl)) ?_
  refine xl_pure rfl rfl rfl (pv_assign (v := .slice _ _ _) rfl rfl) ?_
  refine xl_nil ?_
  refine xthen_normal ?_
  refine xc_ret ?_
  refine fin_ret (res1 (v := .slice _ _ _) rfl rfl) ?_
  exact ⟨rfl, rfl⟩

theorem c91n {O : Outer} {H : Heap}  :
    FnC Try.prog 91 #[.pointer none] O H (fun v H' => v = .slice none 0 0 ∧ H = H') := by
  refine fn_enter (A := [.pointer none]) Try.func91 rfl rfl ?_
  have hX := Ext.refl H
  refine xc_seq ?_
  refine xc_region ?_
  refine xl_pure rfl rfl rfl (pv_assign (v := .slice _ _ _) rfl rfl) ?_
  refine xl_nil ?_
  refine xthen_normal ?_
  refine xc_seq ?_
  refine xc_seq ?_
  refine xc_region ?_
  refine xl_pure rfl rfl rfl (pv_move (v := .pointer _) rfl rfl) ?_
  refine xl_pure rfl rfl rfl (pv_eql_nn rfl rfl rfl) ?_
  refine xl_nil ?_
  refine xthen_normal ?_
  refine xc_cond_t rfl ?_
  refine xc_seq ?_
  refine xc_region ?_
  refine xl_pure rfl rfl rfl (pv_assign (v := .slice _ _ _) rfl rfl) ?_
  refine xl_nil ?_
  refine xthen_normal ?_
  refine xc_ret ?_
  refine xthen_ret ?_
  refine fin_ret (res1 (v := .slice _ _ _) rfl rfl) ?_
  exact ⟨rfl, rfl⟩

theorem c97 {O : Outer} {H : Heap} (r : List Int) (hr : r.length = 5) (k : List Int) (hk : k.length = 4) :
    FnC Try.prog 97 #[.agg (ints r).toArray, .agg (ints k).toArray] O H (fun v H' => v = .int .i64 (kcmp (ky r) k) ∧ Ext H H') := by
  refine fn_enter (A := [.agg (ints r).toArray, .agg (ints k).toArray]) Try.func97 rfl rfl ?_
  have hX := Ext.refl H
  refine xc_seq ?_
  refine xc_region ?_
  refine xl_heavy rfl rfl rfl (hv_box rfl rfl) ?_
  rintro v0_0 H0_0 ⟨b0_0, rfl, hN0_0⟩
  have gb0_0 := hX.fresh hN0_0
  have hX := hX.trans hN0_0.ext
  have m0_0 := hN0_0.blk
  refine xl_heavy rfl rfl rfl (hv_box rfl rfl) ?_
  rintro v0_1 H0_1 ⟨b0_1, rfl, hN0_1⟩
  have gb0_1 := hX.fresh hN0_1
  have nm0_0_0_1 := m0_0.apart hN0_1
  have m0_0 := m0_0.ext hN0_1.ext
  have hX := hX.trans hN0_1.ext
  have m0_1 := hN0_1.blk
  refine xl_pure rfl rfl rfl (pv_assign (v := .int _ _) rfl rfl) ?_
  refine xl_nil ?_
  refine xthen_normal ?_
  refine xc_seq ?_
  refine xc_region ?_
  refine xl_pure rfl rfl rfl (pv_fieldAddr rfl rfl) ?_
  refine xl_light rfl rfl rfl (lv_load (v := .agg _) rfl rfl (ld_ky m0_0 (by omega))) ?_
  refine xl_light rfl rfl rfl (lv_load (v := .agg _) rfl rfl (ld_ints m0_1 hk)) ?_
  refine xl_heavy rfl rfl rfl (hv_call (g := 98) rfl rfl (c98 (ky r) k (ky_len hr (by decide)) hk) rfl) ?_
  rintro v1_3 H1_3 ⟨rfl, hE1_3⟩
  have m0_0 := m0_0.ext hE1_3
  have m0_1 := m0_1.ext hE1_3
  have hX := hX.trans hE1_3
  refine xl_pure rfl rfl rfl (pv_assign (v := .int _ _) rfl rfl) ?_
  refine xl_nil ?_
  refine xthen_normal ?_
  refine xc_ret ?_
  refine fin_ret (res1 (v := .int _ _) rfl rfl) ?_
  exact ⟨rfl, hX⟩

theorem c96 {O : Outer} {H : Heap} {a : Option Addr} {c : Nat} {l : List (List Int)} (hR : RowsT H 138 5 a l) (hs : Srt l) (hl : l.length < 1099511627776) (k : List Int) (hk : k.length = 4) :
    FnC Try.prog 96 #[.slice a l.length c, .agg (ints k).toArray, .func (.func 97) #[] #[]] O H (fun v H' => v = .tuple #[.int .i64 (bel l k : Nat), .bool (hasK l k)] ∧ Ext H H') := by
  refine fn_enter (A := [.slice a l.length c, .agg (ints k).toArray, .func (.func 97) #[] #[]]) Try.func96 rfl rfl ?_
  have hX := Ext.refl H
  refine xc_seq ?_
  refine xc_region ?_
  refine xl_heavy rfl rfl rfl (hv_box rfl rfl) ?_
  rintro v0_0 H0_0 ⟨b0_0, rfl, hN0_0⟩
  have gb0_0 := hX.fresh hN0_0
  have hR := hR.ext hN0_0.ext
  have hX := hX.trans hN0_0.ext
  have m0_0 := hN0_0.blk
  refine xl_pure rfl rfl rfl (pv_assign (v := .int _ _) rfl rfl) ?_
  refine xl_pure rfl rfl rfl (pv_assign (v := .bool _) rfl rfl) ?_
  refine xl_nil ?_
  refine xthen_normal ?_
  refine xc_seq ?_
  refine xc_region ?_
  refine xl_pure rfl rfl rfl (pv_move (v := .slice _ _ _) rfl rfl) ?_
  refine xl_pure rfl rfl rfl (pv_len_l rfl rfl) ?_
  refine xl_pure rfl rfl rfl (pv_assign (v := .int _ _) rfl rfl) ?_
  refine xl_nil ?_
  refine xthen_normal ?_
  refine xc_seq ?_
  refine xc_region ?_
  refine xl_pure rfl rfl rfl (pv_move (v := .int _ _) rfl rfl) ?_
  refine xl_pure rfl rfl rfl (pv_assign (v := .int _ _) rfl rfl) ?_
  refine xl_pure rfl rfl rfl (pv_assign (v := .int _ _) rfl rfl) ?_
  refine xl_nil ?_
  refine xthen_normal ?_
  refine xc_seq ?_
  refine xc_block ?_
  refine xc_loop (τ := Nat × Nat) (fun t => [(0, .slice a l.length c), (2, .func (.func 97) #[] #[]), (4, .pointer (some ⟨b0_0, 0, none⟩)), (8, .int .i64 (l.length : Nat)), (9, .int .i64 (t.1 : Nat)), (10, .int .i64 (t.2 : Nat))]) (fun t H' => (t.1 ≤ t.2) ∧ (t.2 ≤ l.length) ∧ (∀ x, x < t.1 → kcmp (ky (gr l x)) k < 0) ∧ (∀ x, t.2 ≤ x → x < l.length → ¬ kcmp (ky (gr l x)) k < 0) ∧ (RowsT H' 138 5 a l) ∧ (Blk H' b0_0 (ints k) 103) ∧ (Ext H H')) (fun t H' => t.2 - t.1) (0, l.length) ?_ ?_ ?_
  · exact ⟨rfl, rfl, rfl, rfl, rfl, rfl, trivial⟩
  · skip
    exact ⟨Nat.zero_le _, Nat.le_refl _, fun x hx => absurd hx (by omega), fun x h1 h2 => absurd h1 (by omega), hR, m0_0, hX⟩
  · intro σ
    clear hX hR m0_0
    rintro ⟨i, j⟩ Hl3 ⟨hij, hj, hlo, hhi, hR, m0_0, hX⟩
    replace hij : i ≤ j := hij
    replace hj : j ≤ l.length := hj
    replace hlo : ∀ x, x < i → kcmp (ky (gr l x)) k < 0 := hlo
    replace hhi : ∀ x, j ≤ x → x < l.length → ¬ kcmp (ky (gr l x)) k < 0 := hhi
    replace hR : RowsT Hl3 138 5 a l := hR
    replace m0_0 : Blk Hl3 b0_0 (ints k) 103 := m0_0
    replace hX : Ext H Hl3 := hX
    show XC _ _ _ (upds σ [(0, .slice a l.length c), (2, .func (.func 97) #[] #[]), (4, .pointer (some ⟨b0_0, 0, none⟩)), (8, .int .i64 (l.length : Nat)), (9, .int .i64 (i : Nat)), (10, .int .i64 (j : Nat))]) _
    refine xc_seq ?_
    refine xc_seq ?_
    refine xc_region ?_
    refine xl_pure rfl rfl rfl (pv_move (v := .int _ _) rfl rfl) ?_
    refine xl_pure rfl rfl rfl (pv_move (v := .int _ _) rfl rfl) ?_
    refine xl_dec rfl rfl rfl (pv_lss rfl rfl rfl) (fun h3_2 => ?_) (fun h3_2 => ?_)
    · skip
      refine xl_nil ?_
      refine xthen_normal ?_
      refine xc_cond_t rfl ?_
      refine xc_skip ?_
      refine xthen_normal ?_
      refine xc_block ?_
      refine xc_seq ?_
      refine xc_region ?_
      refine xl_pure rfl rfl rfl (pv_move (v := .int _ _) rfl rfl) ?_
      refine xl_pure rfl rfl rfl (pv_move (v := .int _ _) rfl rfl) ?_
      refine xl_pure rfl rfl rfl (pv_add rfl rfl rfl (fit_i64 (by omega))) ?_
      refine xl_pure rfl rfl rfl (pv_conv rfl rfl (fit_u64 (by omega))) ?_
      refine xl_pure rfl rfl rfl (pv_shr (r := (((i + j) / 2 : Nat) : Int)) rfl rfl rfl (by omega) (shr1 i j)) ?_
      refine xl_pure rfl rfl rfl (pv_conv rfl rfl (fit_i64 (by omega))) ?_
      refine xl_pure rfl rfl rfl (pv_assign (v := .int _ _) rfl rfl) ?_
      refine xl_nil ?_
      refine xthen_normal ?_
      refine xc_seq ?_
      obtain ⟨ba, off, hae⟩ := hR.at
      refine xp_start rfl (by repeat (first | with_reducible exact np_fin | with_reducible exact np_ret | with_reducible refine np_then ?_ | with_reducible refine np_block ?_)) (by kernel_rfl) ?_
      refine xp_pure (i := 0) rfl (by kernel_rfl) (by kernel_rfl) rfl rfl rfl (pv_move rfl rfl) ?_
      refine xp_pure (i := 1) rfl (by kernel_rfl) (by kernel_rfl) rfl rfl rfl (pv_move (v := .slice _ _ _) rfl rfl) ?_
      refine xp_pure (i := 2) rfl (by kernel_rfl) (by kernel_rfl) rfl rfl rfl (pv_move (v := .int _ _) rfl rfl) ?_
      refine xp_pure (i := 3) rfl (by kernel_rfl) (by kernel_rfl) rfl rfl rfl (pv_indexAddr_l rfl (sl_eq (hae (by omega)).1) rfl (by omega)) ?_
      refine xp_light (i := 4) rfl (by kernel_rfl) (by kernel_rfl) rfl rfl rfl (lv_load (v := .agg _) rfl rfl (by exact ld_row' (hae (by omega)).2 hR.wide (by omega))) ?_
      refine xp_light (i := 5) rfl (by kernel_rfl) (by kernel_rfl) rfl rfl rfl (lv_load (v := .agg _) rfl rfl (ld_ints m0_0 hk)) ?_
      refine xp_heavy (i := 6) (by kernel_rfl) ?_
      refine xph_val rfl rfl rfl rfl (hv_call (g := 97) rfl rfl (c97 (gr l ((i + j) / 2)) (hR.wide.get (by omega)) k hk) rfl) (pd (by kernel_rfl) (pd (by kernel_rfl) pn)) ?_
      rintro v5_6 H5_6 ⟨rfl, hE5_6⟩
      have hR := hR.ext hE5_6
      have m0_0 := m0_0.ext hE5_6
      have hX := hX.trans hE5_6
      refine ⟨okn, ?_⟩
      refine xp_dec (i := 7) rfl (by kernel_rfl) (by kernel_rfl) rfl rfl rfl (pv_lss rfl rfl rfl) (fun h5_7 => ?_) (fun h5_7 => ?_)
      · skip
        refine xp_done (by kernel_rfl) ?_
        refine xthen_normal ?_
        refine xc_cond_t rfl ?_
        refine xc_region ?_
        refine xl_pure rfl rfl rfl (pv_move (v := .int _ _) rfl rfl) ?_
        refine xl_pure rfl rfl rfl (pv_add rfl rfl rfl (fit_i64 (by omega))) ?_
        refine xl_pure rfl rfl rfl (pv_assign (v := .int _ _) rfl rfl) ?_
        refine xl_nil ?_
        refine xblock_normal ?_
        refine xthen_normal ?_
        first
          | exact ⟨((i + j) / 2 + 1, j), ⟨rfl, rfl, rfl, rfl, rfl, rfl, trivial⟩, ⟨by (try simp only); omega, by (try simp only); omega, bin_lo hs hR.wide (by decide) hk (by omega) h5_7, hhi, hR, m0_0, hX⟩, by (try simp only); omega⟩
          | exact ⟨(i, (i + j) / 2), ⟨rfl, rfl, rfl, rfl, rfl, rfl, trivial⟩, ⟨by (try simp only); omega, by (try simp only); omega, hlo, bin_hi hs hR.wide (by decide) hk (by omega) h5_7, hR, m0_0, hX⟩, by (try simp only); omega⟩
      · skip
        refine xp_done (by kernel_rfl) ?_
        refine xthen_normal ?_
        refine xc_cond_f rfl ?_
        refine xc_region ?_
        refine xl_pure rfl rfl rfl (pv_move (v := .int _ _) rfl rfl) ?_
        refine xl_pure rfl rfl rfl (pv_assign (v := .int _ _) rfl rfl) ?_
        refine xl_nil ?_
        refine xblock_normal ?_
        refine xthen_normal ?_
        first
          | exact ⟨((i + j) / 2 + 1, j), ⟨rfl, rfl, rfl, rfl, rfl, rfl, trivial⟩, ⟨by (try simp only); omega, by (try simp only); omega, bin_lo hs hR.wide (by decide) hk (by omega) h5_7, hhi, hR, m0_0, hX⟩, by (try simp only); omega⟩
          | exact ⟨(i, (i + j) / 2), ⟨rfl, rfl, rfl, rfl, rfl, rfl, trivial⟩, ⟨by (try simp only); omega, by (try simp only); omega, hlo, bin_hi hs hR.wide (by decide) hk (by omega) h5_7, hR, m0_0, hX⟩, by (try simp only); omega⟩
    · skip
      refine xl_nil ?_
      refine xthen_normal ?_
      refine xc_cond_f rfl ?_
      refine xc_exit ?_
      refine xthen_exit ?_
      refine xthen_exit ?_
      refine xblock_same ?_
      refine xthen_normal ?_
      refine xc_seq ?_
      obtain ⟨ba, off, hae⟩ := hR.at
      have hbel : bel l k = i := bel_found hs hR.wide (by decide) hk (by omega) hlo (fun x h1 h2 => hhi x (by omega) h2)
      refine xp_start rfl (by repeat (first | with_reducible exact np_fin | with_reducible exact np_ret | with_reducible refine np_then ?_ | with_reducible refine np_block ?_)) (by kernel_rfl) ?_
      refine xp_pure (i := 0) rfl (by kernel_rfl) (by kernel_rfl) rfl rfl rfl (pv_move (v := .int _ _) rfl rfl) ?_
      refine xp_pure (i := 1) rfl (by kernel_rfl) (by kernel_rfl) rfl rfl rfl (pv_move (v := .int _ _) rfl rfl) ?_
      refine xp_pure (i := 2) rfl (by kernel_rfl) (by kernel_rfl) rfl rfl rfl (pv_move (v := .int _ _) rfl rfl) ?_
      refine xp_dec (i := 3) rfl (by kernel_rfl) (by kernel_rfl) rfl rfl rfl (pv_lss rfl rfl rfl) (fun h8_3 => ?_) (fun h8_3 => ?_)
      · skip
        refine xp_pure (i := 4) rfl (by kernel_rfl) (by kernel_rfl) rfl rfl rfl (pv_move (v := .bool _) rfl rfl) ?_
        refine xp_pure (i := 5) rfl (by kernel_rfl) (by kernel_rfl) rfl rfl rfl (pv_move rfl rfl) ?_
        refine xp_pure (i := 6) rfl (by kernel_rfl) (by kernel_rfl) rfl rfl rfl (pv_move (v := .slice _ _ _) rfl rfl) ?_
        refine xp_pure (i := 7) rfl (by kernel_rfl) (by kernel_rfl) rfl rfl rfl (pv_move (v := .int _ _) rfl rfl) ?_
        refine xp_pure (i := 8) rfl (by kernel_rfl) (by kernel_rfl) rfl rfl rfl (pv_indexAddr_l rfl (sl_eq (hae (by omega)).1) rfl (by omega)) ?_
        refine xp_light (i := 9) rfl (by kernel_rfl) (by kernel_rfl) rfl rfl rfl (lv_load (v := .agg _) rfl rfl (by exact ld_row' (hae (by omega)).2 hR.wide (by omega))) ?_
        refine xp_light (i := 10) rfl (by kernel_rfl) (by kernel_rfl) rfl rfl rfl (lv_load (v := .agg _) rfl rfl (ld_ints m0_0 hk)) ?_
        refine xp_heavy (i := 11) (by kernel_rfl) ?_
        refine xph_val rfl rfl rfl rfl (hv_call (g := 97) rfl rfl (c97 (gr l i) (hR.wide.get (by omega)) k hk) rfl) (pd (by kernel_rfl) (pd (by kernel_rfl) pn)) ?_
        rintro v8_11 H8_11 ⟨rfl, hE8_11⟩
        have hR := hR.ext hE8_11
        have m0_0 := m0_0.ext hE8_11
        have hX := hX.trans hE8_11
        refine ⟨okn, ?_⟩
        refine xp_dec (i := 12) rfl (by kernel_rfl) (by kernel_rfl) rfl rfl rfl (pv_eql rfl rfl rfl) (fun h8_12 => ?_) (fun h8_12 => ?_)
        · skip
          refine xp_pure (i := 13) rfl (by kernel_rfl) (by kernel_rfl) rfl rfl rfl (pv_pick_t (v := .bool _) rfl rfl rfl) ?_
          refine xp_pure (i := 14) rfl (by kernel_rfl) (by kernel_rfl) rfl rfl rfl (pv_assign (v := .int _ _) rfl rfl) ?_
          refine xp_pure (i := 15) rfl (by kernel_rfl) (by kernel_rfl) rfl rfl rfl (pv_assign (v := .bool _) rfl rfl) ?_
          refine xp_done (by kernel_rfl) ?_
          refine xthen_normal ?_
          refine xc_ret ?_
          refine fin_ret (res2 (v := .int _ _) (x := .bool _) rfl rfl rfl) ?_
          first
            | exact ⟨tup2 (by rw [hbel]) (has_true hs hR.wide (by decide) hk hbel (by omega) h8_12), hX⟩
            | exact ⟨tup2 (by rw [hbel]) (has_false hs hR.wide (by decide) hk hbel (fun h => h8_12 h.2)), hX⟩
            | exact ⟨tup2 (by rw [hbel]) (has_false hs hR.wide (by decide) hk hbel (fun h => absurd h.1 (by omega))), hX⟩
        · skip
          refine xp_pure (i := 13) rfl (by kernel_rfl) (by kernel_rfl) rfl rfl rfl (pv_pick_t (v := .bool _) rfl rfl rfl) ?_
          refine xp_pure (i := 14) rfl (by kernel_rfl) (by kernel_rfl) rfl rfl rfl (pv_assign (v := .int _ _) rfl rfl) ?_
          refine xp_pure (i := 15) rfl (by kernel_rfl) (by kernel_rfl) rfl rfl rfl (pv_assign (v := .bool _) rfl rfl) ?_
          refine xp_done (by kernel_rfl) ?_
          refine xthen_normal ?_
          refine xc_ret ?_
          refine fin_ret (res2 (v := .int _ _) (x := .bool _) rfl rfl rfl) ?_
          first
            | exact ⟨tup2 (by rw [hbel]) (has_true hs hR.wide (by decide) hk hbel (by omega) h8_12), hX⟩
            | exact ⟨tup2 (by rw [hbel]) (has_false hs hR.wide (by decide) hk hbel (fun h => h8_12 h.2)), hX⟩
            | exact ⟨tup2 (by rw [hbel]) (has_false hs hR.wide (by decide) hk hbel (fun h => absurd h.1 (by omega))), hX⟩
      · skip
        refine xp_pure (i := 4) rfl (by kernel_rfl) (by kernel_rfl) rfl rfl rfl (pv_move (v := .bool _) rfl rfl) ?_
        refine xp_skip (i := 5) rfl (by kernel_rfl) (by kernel_rfl) rfl rfl rfl ?_
        refine xp_skip (i := 6) rfl (by kernel_rfl) (by kernel_rfl) rfl rfl rfl ?_
        refine xp_skip (i := 7) rfl (by kernel_rfl) (by kernel_rfl) rfl rfl rfl ?_
        refine xp_skip (i := 8) rfl (by kernel_rfl) (by kernel_rfl) rfl rfl rfl ?_
        refine xp_skip (i := 9) rfl (by kernel_rfl) (by kernel_rfl) rfl rfl rfl ?_
        refine xp_skip (i := 10) rfl (by kernel_rfl) (by kernel_rfl) rfl rfl rfl ?_
        refine xp_skip (i := 11) rfl (by kernel_rfl) (by kernel_rfl) rfl rfl rfl ?_
        refine xp_skip (i := 12) rfl (by kernel_rfl) (by kernel_rfl) rfl rfl rfl ?_
        refine xp_pure (i := 13) rfl (by kernel_rfl) (by kernel_rfl) rfl rfl rfl (pv_pick_f (v := .bool _) rfl rfl rfl) ?_
        refine xp_pure (i := 14) rfl (by kernel_rfl) (by kernel_rfl) rfl rfl rfl (pv_assign (v := .int _ _) rfl rfl) ?_
        refine xp_pure (i := 15) rfl (by kernel_rfl) (by kernel_rfl) rfl rfl rfl (pv_assign (v := .bool _) rfl rfl) ?_
        refine xp_done (by kernel_rfl) ?_
        refine xthen_normal ?_
        refine xc_ret ?_
        refine fin_ret (res2 (v := .int _ _) (x := .bool _) rfl rfl rfl) ?_
        first
          | exact ⟨tup2 (by rw [hbel]) (has_true hs hR.wide (by decide) hk hbel (by omega) h8_12), hX⟩
          | exact ⟨tup2 (by rw [hbel]) (has_false hs hR.wide (by decide) hk hbel (fun h => h8_12 h.2)), hX⟩
          | exact ⟨tup2 (by rw [hbel]) (has_false hs hR.wide (by decide) hk hbel (fun h => absurd h.1 (by omega))), hX⟩

theorem c79 {O : Outer} {H : Heap} {bt t c : Nat} {rest : List Value} {a : Option Addr} {l : List (List Int)} (mt : Blk H bt (.slice a l.length c :: rest) t) (hR : RowsT H 138 5 a l) (hne : Nat.beq t 138 = false) (hs : Srt l) (hc : l.length ≤ c) (hna : a = none → c = 0) (hl : l.length < 1099511627776) (k : List Int) (hk : k.length = 4) :
    FnC Try.prog 79 #[.pointer (some ⟨bt, 0, none⟩), .agg (ints k).toArray] O H (fun v H' => v = .tuple #[.int .i64 (bel l k : Nat), .bool (hasK l k)] ∧ Ext H H') := by
  refine fn_enter (A := [.pointer (some ⟨bt, 0, none⟩), .agg (ints k).toArray]) Try.func79 rfl rfl ?_
  have hX := Ext.refl H
  refine xc_seq ?_
  refine xc_region ?_
  refine xl_heavy rfl rfl rfl (hv_box rfl rfl) ?_
  rintro v0_0 H0_0 ⟨b0_0, rfl, hN0_0⟩
  have gb0_0 := hX.fresh hN0_0
  have nmt_0_0 := mt.apart hN0_0
  have mt := mt.ext hN0_0.ext
  have hR := hR.ext hN0_0.ext
  have hX := hX.trans hN0_0.ext
  have m0_0 := hN0_0.blk
  refine xl_pure rfl rfl rfl (pv_assign (v := .int _ _) rfl rfl) ?_
  refine xl_pure rfl rfl rfl (pv_assign (v := .bool _) rfl rfl) ?_
  refine xl_nil ?_
  refine xthen_normal ?_
  refine xc_seq ?_
  refine xp_start rfl (by repeat (first | with_reducible exact np_fin | with_reducible exact np_ret | with_reducible refine np_then ?_ | with_reducible refine np_block ?_)) (by kernel_rfl) ?_
  refine xp_pure (i := 0) rfl (by kernel_rfl) (by kernel_rfl) rfl rfl rfl (pv_move (v := .pointer _) rfl rfl) ?_
  refine xp_light (i := 2) rfl (by kernel_rfl) (by kernel_rfl) rfl rfl rfl (lv_load (v := .agg _) rfl rfl (ld_ints m0_0 hk)) ?_
  refine xp_heavy (i := 1) (by kernel_rfl) ?_
  refine xph_val rfl rfl rfl rfl (hv_call (g := 91) rfl rfl (c91 mt) rfl) (pk (by kernel_rfl) pn) ?_
  rintro v1_1 H1_1 ⟨rfl, rfl⟩
  refine ⟨(okc (lv_load (v := .agg _) rfl rfl (ld_ints m0_0 hk)) okn), ?_⟩
  refine xp_heavy (i := 3) (by kernel_rfl) ?_
  refine xph_val rfl rfl rfl rfl (hv_call (g := 96) rfl rfl (c96 hR hs hl k hk) rfl) (pd (by kernel_rfl) pn) ?_
  rintro v1_3 H1_3 ⟨rfl, hE1_3⟩
  have mt := mt.ext hE1_3
  have hR := hR.ext hE1_3
  have m0_0 := m0_0.ext hE1_3
  have hX := hX.trans hE1_3
  refine ⟨okn, ?_⟩
  refine xp_pure (i := 4) rfl (by kernel_rfl) (by kernel_rfl) rfl rfl rfl (pv_extract (v := .int _ _) rfl rfl rfl) ?_
  refine xp_pure (i := 5) rfl (by kernel_rfl) (by kernel_rfl) rfl rfl rfl (pv_extract (v := .bool _) rfl rfl rfl) ?_
  refine xp_pure (i := 6) rfl (by kernel_rfl) (by kernel_rfl) rfl rfl rfl (pv_assign (v := .int _ _) rfl rfl) ?_
  refine xp_pure (i := 7) rfl (by kernel_rfl) (by kernel_rfl) rfl rfl rfl (pv_assign (v := .bool _) rfl rfl) ?_
  refine xp_done (by kernel_rfl) ?_
  refine xthen_normal ?_
  refine xc_ret ?_
  refine fin_ret (res2 (v := .int _ _) (x := .bool _) rfl rfl rfl) ?_
  exact ⟨rfl, hX⟩

theorem c79n {O : Outer} {H : Heap}  (k : List Int) (hk : k.length = 4) :
    FnC Try.prog 79 #[.pointer none, .agg (ints k).toArray] O H (fun v H' => v = .tuple #[.int .i64 0, .bool false] ∧ Ext H H') := by
  refine fn_enter (A := [.pointer none, .agg (ints k).toArray]) Try.func79 rfl rfl ?_
  have hX := Ext.refl H
  refine xc_seq ?_
  refine xc_region ?_
  refine xl_heavy rfl rfl rfl (hv_box rfl rfl) ?_
  rintro v0_0 H0_0 ⟨b0_0, rfl, hN0_0⟩
  have gb0_0 := hX.fresh hN0_0
  have hX := hX.trans hN0_0.ext
  have m0_0 := hN0_0.blk
  refine xl_pure rfl rfl rfl (pv_assign (v := .int _ _) rfl rfl) ?_
  refine xl_pure rfl rfl rfl (pv_assign (v := .bool _) rfl rfl) ?_
  refine xl_nil ?_
  refine xthen_normal ?_
  refine xc_seq ?_
  refine xp_start rfl (by repeat (first | with_reducible exact np_fin | with_reducible exact np_ret | with_reducible refine np_then ?_ | with_reducible refine np_block ?_)) (by kernel_rfl) ?_
  refine xp_pure (i := 0) rfl (by kernel_rfl) (by kernel_rfl) rfl rfl rfl (pv_move (v := .pointer _) rfl rfl) ?_
  refine xp_light (i := 2) rfl (by kernel_rfl) (by kernel_rfl) rfl rfl rfl (lv_load (v := .agg _) rfl rfl (ld_ints m0_0 hk)) ?_
  refine xp_heavy (i := 1) (by kernel_rfl) ?_
  refine xph_val rfl rfl rfl rfl (hv_call (g := 91) rfl rfl (c91n) rfl) (pk (by kernel_rfl) pn) ?_
  rintro v1_1 H1_1 ⟨rfl, rfl⟩
  refine ⟨(okc (lv_load (v := .agg _) rfl rfl (ld_ints m0_0 hk)) okn), ?_⟩
  refine xp_heavy (i := 3) (by kernel_rfl) ?_
  refine xph_val rfl rfl rfl rfl (hv_call (g := 96) rfl rfl (c96 (l := []) RowsT.nil srt_nil (by decide) k hk) rfl) (pd (by kernel_rfl) pn) ?_
  rintro v1_3 H1_3 ⟨rfl, hE1_3⟩
  have m0_0 := m0_0.ext hE1_3
  have hX := hX.trans hE1_3
  refine ⟨okn, ?_⟩
  refine xp_pure (i := 4) rfl (by kernel_rfl) (by kernel_rfl) rfl rfl rfl (pv_extract (v := .int _ _) rfl rfl rfl) ?_
  refine xp_pure (i := 5) rfl (by kernel_rfl) (by kernel_rfl) rfl rfl rfl (pv_extract (v := .bool _) rfl rfl rfl) ?_
  refine xp_pure (i := 6) rfl (by kernel_rfl) (by kernel_rfl) rfl rfl rfl (pv_assign (v := .int _ _) rfl rfl) ?_
  refine xp_pure (i := 7) rfl (by kernel_rfl) (by kernel_rfl) rfl rfl rfl (pv_assign (v := .bool _) rfl rfl) ?_
  refine xp_done (by kernel_rfl) ?_
  refine xthen_normal ?_
  refine xc_ret ?_
  refine fin_ret (res2 (v := .int _ _) (x := .bool _) rfl rfl rfl) ?_
  exact ⟨rfl, hX⟩

theorem c75 {O : Outer} {H : Heap} {bt t c : Nat} {rest : List Value} {a : Option Addr} {l : List (List Int)} (mt : Blk H bt (.slice a l.length c :: rest) t) (hR : RowsT H 138 5 a l) (hne : Nat.beq t 138 = false) (hs : Srt l) (hc : l.length ≤ c) (hna : a = none → c = 0) (hl : l.length < 1099511627776) (k : List Int) (hk : k.length = 4) :
    FnC Try.prog 75 #[.pointer (some ⟨bt, 0, none⟩), .agg (ints k).toArray] O H (fun v H' => v = .tuple #[.int .i64 (if hasK l k then (gr l (bel l k)).getD 4 0 else 0), .bool (hasK l k)] ∧ Ext H H') := by
  refine fn_enter (A := [.pointer (some ⟨bt, 0, none⟩), .agg (ints k).toArray]) Try.func75 rfl rfl ?_
  have hX := Ext.refl H
  refine xc_seq ?_
  refine xc_region ?_
  refine xl_heavy rfl rfl rfl (hv_box rfl rfl) ?_
  rintro v0_0 H0_0 ⟨b0_0, rfl, hN0_0⟩
  have gb0_0 := hX.fresh hN0_0
  have nmt_0_0 := mt.apart hN0_0
  have mt := mt.ext hN0_0.ext
  have hR := hR.ext hN0_0.ext
  have hX := hX.trans hN0_0.ext
  have m0_0 := hN0_0.blk
  refine xl_pure rfl rfl rfl (pv_assign (v := .int _ _) rfl rfl) ?_
  refine xl_pure rfl rfl rfl (pv_assign (v := .bool _) rfl rfl) ?_
  refine xl_nil ?_
  refine xthen_normal ?_
  refine xc_seq ?_
  refine xc_region ?_
  refine xl_pure rfl rfl rfl (pv_move (v := .pointer _) rfl rfl) ?_
  refine xl_light rfl rfl rfl (lv_load (v := .agg _) rfl rfl (ld_ints m0_0 hk)) ?_
  refine xl_heavy rfl rfl rfl (hv_call (g := 79) rfl rfl (c79 mt hR hne hs hc hna hl k hk) rfl) ?_
  rintro v1_2 H1_2 ⟨rfl, hE1_2⟩
  have mt := mt.ext hE1_2
  have hR := hR.ext hE1_2
  have m0_0 := m0_0.ext hE1_2
  have hX := hX.trans hE1_2
  cases hh1_2 : hasK l k
  · skip
    refine xl_pure rfl rfl rfl (pv_move (v := .tuple _) rfl rfl) ?_
    refine xl_pure rfl rfl rfl (pv_extract (v := .int _ _) rfl rfl rfl) ?_
    refine xl_pure rfl rfl rfl (pv_extract (v := .bool _) rfl rfl rfl) ?_
    refine xl_pure rfl rfl rfl (pv_assign (v := .int _ _) rfl rfl) ?_
    refine xl_pure rfl rfl rfl (pv_assign (v := .bool _) rfl rfl) ?_
    refine xl_nil ?_
    refine xthen_normal ?_
    refine xc_seq ?_
    refine xc_seq ?_
    refine xc_region ?_
    refine xl_pure rfl rfl rfl (pv_move (v := .bool _) rfl rfl) ?_
    refine xl_pure rfl rfl rfl (pv_not rfl rfl) ?_
    refine xl_nil ?_
    refine xthen_normal ?_
    refine xc_cond_t rfl ?_
    refine xc_seq ?_
    refine xc_region ?_
    refine xl_pure rfl rfl rfl (pv_assign (v := .int _ _) rfl rfl) ?_
    refine xl_nil ?_
    refine xthen_normal ?_
    refine xc_seq ?_
    refine xc_region ?_
    refine xl_pure rfl rfl rfl (pv_move (v := .int _ _) rfl rfl) ?_
    refine xl_pure rfl rfl rfl (pv_assign (v := .int _ _) rfl rfl) ?_
    refine xl_pure rfl rfl rfl (pv_assign (v := .bool _) rfl rfl) ?_
    refine xl_nil ?_
    refine xthen_normal ?_
    refine xc_ret ?_
    refine xthen_ret ?_
    refine fin_ret (res2 (v := .int _ _) (x := .bool _) rfl rfl rfl) ?_
    exact ⟨rfl, hX⟩
  · skip
    refine xl_pure rfl rfl rfl (pv_move (v := .tuple _) rfl rfl) ?_
    refine xl_pure rfl rfl rfl (pv_extract (v := .int _ _) rfl rfl rfl) ?_
    refine xl_pure rfl rfl rfl (pv_extract (v := .bool _) rfl rfl rfl) ?_
    refine xl_pure rfl rfl rfl (pv_assign (v := .int _ _) rfl rfl) ?_
    refine xl_pure rfl rfl rfl (pv_assign (v := .bool _) rfl rfl) ?_
    refine xl_nil ?_
    refine xthen_normal ?_
    refine xc_seq ?_
    refine xc_seq ?_
    refine xc_region ?_
    refine xl_pure rfl rfl rfl (pv_move (v := .bool _) rfl rfl) ?_
    refine xl_pure rfl rfl rfl (pv_not rfl rfl) ?_
    refine xl_nil ?_
    refine xthen_normal ?_
    refine xc_cond_f rfl ?_
    refine xc_skip ?_
    refine xthen_normal ?_
    refine xc_seq ?_
    have hlt := has_lt hs hR.wide (by decide) hk hh1_2
    obtain ⟨ba, off, hae⟩ := hR.at
    refine xc_region ?_
    refine xl_pure rfl rfl rfl (pv_move (v := .pointer _) rfl rfl) ?_
    refine xl_pure rfl rfl rfl (pv_nilCheck_p rfl rfl) ?_
    refine xl_pure rfl rfl rfl (pv_fieldAddr rfl rfl) ?_
    refine xl_light rfl rfl rfl (lv_load (v := .slice _ _ _) rfl rfl (ld_blk mt rfl)) ?_
    refine xl_pure rfl rfl rfl (pv_move (v := .int _ _) rfl rfl) ?_
    refine xl_pure rfl rfl rfl (pv_indexAddr_l rfl (sl_eq (hae (by omega)).1) rfl (by omega)) ?_
    refine xl_pure rfl rfl rfl (pv_fieldAddr rfl rfl) ?_
    refine xl_light rfl rfl rfl (lv_load (v := .int _ _) rfl rfl (by exact ld_num (j := 4) (hae (by omega)).2 hR.wide (by omega) (by decide))) ?_
    refine xl_pure rfl rfl rfl (pv_assign (v := .int _ _) rfl rfl) ?_
    refine xl_pure rfl rfl rfl (pv_assign (v := .bool _) rfl rfl) ?_
    refine xl_nil ?_
    refine xthen_normal ?_
    refine xc_ret ?_
    refine fin_ret (res2 (v := .int _ _) (x := .bool _) rfl rfl rfl) ?_
    exact ⟨rfl, hX⟩

theorem c75n {O : Outer} {H : Heap}  (k : List Int) (hk : k.length = 4) :
    FnC Try.prog 75 #[.pointer none, .agg (ints k).toArray] O H (fun v H' => v = .tuple #[.int .i64 0, .bool false] ∧ Ext H H') := by
  refine fn_enter (A := [.pointer none, .agg (ints k).toArray]) Try.func75 rfl rfl ?_
  have hX := Ext.refl H
  refine xc_seq ?_
  refine xc_region ?_
  refine xl_heavy rfl rfl rfl (hv_box rfl rfl) ?_
  rintro v0_0 H0_0 ⟨b0_0, rfl, hN0_0⟩
  have gb0_0 := hX.fresh hN0_0
  have hX := hX.trans hN0_0.ext
  have m0_0 := hN0_0.blk
  refine xl_pure rfl rfl rfl (pv_assign (v := .int _ _) rfl rfl) ?_
  refine xl_pure rfl rfl rfl (pv_assign (v := .bool _) rfl rfl) ?_
  refine xl_nil ?_
  refine xthen_normal ?_
  refine xc_seq ?_
  refine xc_region ?_
  refine xl_pure rfl rfl rfl (pv_move (v := .pointer _) rfl rfl) ?_
  refine xl_light rfl rfl rfl (lv_load (v := .agg _) rfl rfl (ld_ints m0_0 hk)) ?_
  refine xl_heavy rfl rfl rfl (hv_call (g := 79) rfl rfl (c79n k hk) rfl) ?_
  rintro v1_2 H1_2 ⟨rfl, hE1_2⟩
  have m0_0 := m0_0.ext hE1_2
  have hX := hX.trans hE1_2
  refine xl_pure rfl rfl rfl (pv_move (v := .tuple _) rfl rfl) ?_
  refine xl_pure rfl rfl rfl (pv_extract (v := .int _ _) rfl rfl rfl) ?_
  refine xl_pure rfl rfl rfl (pv_extract (v := .bool _) rfl rfl rfl) ?_
  refine xl_pure rfl rfl rfl (pv_assign (v := .int _ _) rfl rfl) ?_
  refine xl_pure rfl rfl rfl (pv_assign (v := .bool _) rfl rfl) ?_
  refine xl_nil ?_
  refine xthen_normal ?_
  refine xc_seq ?_
  refine xc_seq ?_
  refine xc_region ?_
  refine xl_pure rfl rfl rfl (pv_move (v := .bool _) rfl rfl) ?_
  refine xl_pure rfl rfl rfl (pv_not rfl rfl) ?_
  refine xl_nil ?_
  refine xthen_normal ?_
  refine xc_cond_t rfl ?_
  refine xc_seq ?_
  refine xc_region ?_
  refine xl_pure rfl rfl rfl (pv_assign (v := .int _ _) rfl rfl) ?_
  refine xl_nil ?_
  refine xthen_normal ?_
  refine xc_seq ?_
  refine xc_region ?_
  refine xl_pure rfl rfl rfl (pv_move (v := .int _ _) rfl rfl) ?_
  refine xl_pure rfl rfl rfl (pv_assign (v := .int _ _) rfl rfl) ?_
  refine xl_pure rfl rfl rfl (pv_assign (v := .bool _) rfl rfl) ?_
  refine xl_nil ?_
  refine xthen_normal ?_
  refine xc_ret ?_
  refine xthen_ret ?_
  refine fin_ret (res2 (v := .int _ _) (x := .bool _) rfl rfl rfl) ?_
  exact ⟨rfl, hX⟩

theorem c46 {O : Outer} {H : Heap} {bt t c : Nat} {rest : List Value} {a : Option Addr} {l : List (List Int)} (mt : Blk H bt (.slice a l.length c :: rest) t) (hR : RowsT H 138 5 a l) (hne : Nat.beq t 138 = false) (hs : Srt l) (hc : l.length ≤ c) (hna : a = none → c = 0) (hl : l.length < 1099511627776) (k : List Int) (hk : k.length = 4) (x : Int) :
    FnC Try.prog 46 #[.pointer (some ⟨bt, 0, none⟩), .agg (ints k).toArray, .int .i64 x] O H (fun v H' => ∃ a' c', v = .bool (!hasK l k) ∧ Upd H H' bt (.slice a' (putR l (k ++ [x])).length c' :: rest) t ∧ RowsT H' 138 5 a' (putR l (k ++ [x])) ∧ (putR l (k ++ [x])).length ≤ c' ∧ (a' = none → c' = 0)) := by
  refine fn_enter (A := [.pointer (some ⟨bt, 0, none⟩), .agg (ints k).toArray, .int .i64 x]) Try.func46 rfl rfl ?_
  have hX := But.refl bt H
  refine xc_seq ?_
  refine xc_region ?_
  refine xl_heavy rfl rfl rfl (hv_box rfl rfl) ?_
  rintro v0_0 H0_0 ⟨b0_0, rfl, hN0_0⟩
  have gb0_0 := hX.fresh hN0_0
  have nmt_0_0 := mt.apart hN0_0
  have mt := mt.ext hN0_0.ext
  have hR := hR.ext hN0_0.ext
  have hX := hX.transE hN0_0.ext
  have m0_0 := hN0_0.blk
  refine xl_pure rfl rfl rfl (pv_assign (v := .bool _) rfl rfl) ?_
  refine xl_nil ?_
  refine xthen_normal ?_
  refine xc_seq ?_
  refine xc_seq ?_
  refine xc_region ?_
  refine xl_pure rfl rfl rfl (pv_move (v := .pointer _) rfl rfl) ?_
  refine xl_pure rfl rfl rfl (pv_eql_pn rfl rfl rfl) ?_
  refine xl_nil ?_
  refine xthen_normal ?_
  refine xc_cond_f rfl ?_
  refine xc_skip ?_
  refine xthen_normal ?_
  refine xc_seq ?_
  refine xc_region ?_
  refine xl_pure rfl rfl rfl (pv_move (v := .pointer _) rfl rfl) ?_
  refine xl_light rfl rfl rfl (lv_load (v := .agg _) rfl rfl (ld_ints m0_0 hk)) ?_
  refine xl_heavy rfl rfl rfl (hv_call (g := 79) rfl rfl (c79 mt hR hne hs hc hna hl k hk) rfl) ?_
  rintro v3_2 H3_2 ⟨rfl, hE3_2⟩
  have mt := mt.ext hE3_2
  have hR := hR.ext hE3_2
  have m0_0 := m0_0.ext hE3_2
  have hX := hX.transE hE3_2
  cases hh3_2 : hasK l k
  · skip
    refine xl_pure rfl rfl rfl (pv_move (v := .tuple _) rfl rfl) ?_
    refine xl_pure rfl rfl rfl (pv_extract (v := .int _ _) rfl rfl rfl) ?_
    refine xl_pure rfl rfl rfl (pv_extract (v := .bool _) rfl rfl rfl) ?_
    refine xl_pure rfl rfl rfl (pv_assign (v := .int _ _) rfl rfl) ?_
    refine xl_pure rfl rfl rfl (pv_assign (v := .bool _) rfl rfl) ?_
    refine xl_nil ?_
    refine xthen_normal ?_
    refine xc_seq ?_
    have hbl := bel_le l k
    refine xc_region ?_
    refine xl_pure rfl rfl rfl (pv_move (v := .pointer _) rfl rfl) ?_
    refine xl_pure rfl rfl rfl (pv_nilCheck_p rfl rfl) ?_
    refine xl_pure rfl rfl rfl (pv_fieldAddr rfl rfl) ?_
    refine xl_light rfl rfl rfl (lv_load (v := .slice _ _ _) rfl rfl (ld_blk mt rfl)) ?_
    refine xl_pure rfl rfl rfl (pv_move (v := .int _ _) rfl rfl) ?_
    refine xl_pure rfl rfl rfl (pv_slice_l rfl rfl (.none _) (.none _) (.some rfl (by omega)) (by omega) (by simp)) ?_
    refine xl_pure rfl rfl rfl (pv_assign (v := .slice _ _ _) rfl rfl) ?_
    refine xl_nil ?_
    refine xthen_normal ?_
    refine xc_seq ?_
    refine xc_seq ?_
    refine xc_region ?_
    refine xl_pure rfl rfl rfl (pv_move (v := .bool _) rfl rfl) ?_
    refine xl_nil ?_
    refine xthen_normal ?_
    refine xc_cond_f rfl ?_
    refine xc_skip ?_
    refine xthen_normal ?_
    refine xc_seq ?_
    have hRc := hR
    have hlw := hR.wide
    refine xp_start rfl (by repeat (first | with_reducible exact np_fin | with_reducible exact np_ret | with_reducible refine np_then ?_ | with_reducible refine np_block ?_)) (by kernel_rfl) ?_
    refine xp_pure (i := 0) rfl (by kernel_rfl) (by kernel_rfl) rfl rfl rfl (pv_move (v := .pointer _) rfl rfl) ?_
    refine xp_pure (i := 1) rfl (by kernel_rfl) (by kernel_rfl) rfl rfl rfl (pv_move (v := .pointer _) rfl rfl) ?_
    refine xp_pure (i := 2) rfl (by kernel_rfl) (by kernel_rfl) rfl rfl rfl (pv_nilCheck_p rfl rfl) ?_
    refine xp_pure (i := 3) rfl (by kernel_rfl) (by kernel_rfl) rfl rfl rfl (pv_fieldAddr rfl rfl) ?_
    refine xp_light (i := 4) rfl (by kernel_rfl) (by kernel_rfl) rfl rfl rfl (lv_load (v := .slice _ _ _) rfl rfl (by exact ld_blk mt rfl)) ?_
    refine xp_pure (i := 5) rfl (by kernel_rfl) (by kernel_rfl) rfl rfl rfl (pv_move (v := .int _ _) rfl rfl) ?_
    refine xp_pure (i := 6) rfl (by kernel_rfl) (by kernel_rfl) rfl rfl rfl (pv_move (v := .int _ _) rfl rfl) ?_
    refine xp_pure (i := 7) rfl (by kernel_rfl) (by kernel_rfl) rfl rfl rfl (pv_slice_l rfl rfl (.some rfl (by omega)) (.some rfl (by omega)) (.none _) (by omega) (by simp)) ?_
    refine xp_light (i := 8) rfl (by kernel_rfl) (by kernel_rfl) rfl rfl rfl (lv_load (v := .agg _) rfl rfl (by exact ld_ints m0_0 hk)) ?_
    refine xp_pure (i := 9) rfl (by kernel_rfl) (by kernel_rfl) rfl rfl rfl (pv_move (v := .int _ _) rfl rfl) ?_
    refine xp_pure (i := 10) rfl (by kernel_rfl) (by kernel_rfl) rfl rfl rfl (pv_build_pair (xs := ints k) (ys := [.int .i64 x]) rfl rfl rfl rfl rfl (by rw [ints_ten hk]; rfl) (by rw [ints_ten hk]; rfl) (by rw [ints_ten hk]; rfl)) ?_
    refine xp_pure (i := 13) rfl (by kernel_rfl) (by kernel_rfl) rfl rfl rfl (pv_move (v := .slice _ _ _) rfl rfl) ?_
    refine xp_heavy (i := 11) (by kernel_rfl) ?_
    refine xph_val rfl rfl rfl rfl (hv_buildSlice (cs := (ints k ++ [.int .i64 x])) rfl rfl (parts1 (by simp [ints, hk])) rfl rfl) (pk (by kernel_rfl) (pk (by kernel_rfl) pn)) ?_
    rintro v7_11 H7_11 ⟨b7_11, rfl, hN7_11⟩
    have gb7_11 := hX.fresh hN7_11
    have nmt_7_11 := mt.apart hN7_11
    have nm0_0_7_11 := m0_0.apart hN7_11
    have mt := mt.ext hN7_11.ext
    have hR := hR.ext hN7_11.ext
    have m0_0 := m0_0.ext hN7_11.ext
    have hX := hX.transE hN7_11.ext
    have m7_11 := hN7_11.blk
    have hz7_11 := hX.size
    have hRc := hRc.ext hN7_11.ext
    refine ⟨(okc (lv_load (v := .agg _) rfl rfl (by exact ld_ints m0_0 hk)) (okc (lv_load (v := .slice _ _ _) rfl rfl (by exact ld_blk mt rfl)) okn)), ?_⟩
    refine xp_heavy (i := 12) (by kernel_rfl) ?_
    refine xph_val rfl rfl rfl rfl (hv_append_full (size := 5) (l := l.take (bel l k)) (l' := [(k ++ [x])]) rfl rfl (by simp; try omega) (by rw [cutA_0]; exact hRc.take (by omega)) rfl rfl (rowsT1 m7_11 (by simp [ints]) (by simp [hk])) (by decide) rfl (by decide) (by omega) (by omega) (fun h => by rw [cutA_0] at h; have := hna h; omega)) (pk (by kernel_rfl) (pk (by kernel_rfl) pn)) ?_
    rintro v7_12 H7_12 ⟨hO7_12, hE7_12⟩
    have mt := mt.ext hE7_12
    have hR := hR.ext hE7_12
    have m0_0 := m0_0.ext hE7_12
    have m7_11 := m7_11.ext hE7_12
    have hX := hX.transE hE7_12
    have hRc := hRc.ext hE7_12
    obtain ⟨a7_12, c7_12, rfl⟩ := hO7_12.val
    refine ⟨(okc (lv_load (v := .agg _) rfl rfl (by exact ld_ints m0_0 hk)) (okc (lv_load (v := .slice _ _ _) rfl rfl (by exact ld_blk mt rfl)) okn)), ?_⟩
    refine xp_heavy (i := 14) (by kernel_rfl) ?_
    refine xph_val rfl rfl rfl rfl (hv_append_rows (size := 5) (l := l.take (bel l k) ++ [(k ++ [x])]) (l' := l.drop (bel l k)) rfl rfl hO7_12 rfl (by simp; try omega) (by exact (hRc.cut (by omega) hc)) rfl (by decide) (by omega) (by omega) hE7_12.size) (pk (by kernel_rfl) (pk (by kernel_rfl) pn)) ?_
    rintro v7_14 H7_14 ⟨hO7_14, hG7_14⟩
    have mt := mt.offT hO7_12 hG7_14 hne
    have m0_0 := m0_0.offT hO7_12 hG7_14 rfl
    have hX := hO7_12.grownB hX hG7_14 hz7_11
    obtain ⟨a7_14, c7_14, rfl⟩ := hO7_14.val
    have hcap := own_cap hO7_14
    have eL : (putR l (k ++ [x])).length = bel l k - 0 + 1 + (l.length - bel l k) := by rw [put_new hk hh3_2]; simp; omega
    replace hO7_14 : Own H7_14 H7_11.size 138 5 (.slice a7_14 (putR l (k ++ [x])).length c7_14) (putR l (k ++ [x])).length (fr (putR l (k ++ [x]))) := by rw [eL, put_new hk hh3_2]; exact hO7_14
    have hRn := own_rowsT (wide_put hRc.wide (by simp [hk])) hO7_14
    have hcn : (putR l (k ++ [x])).length ≤ c7_14 := by rcases own_blk hO7_14 with ⟨h1, h2⟩ | ⟨_, _, _, _, _, h2⟩; omega; exact h2
    refine ⟨(okc (lv_load (v := .agg _) rfl rfl (by exact ld_ints m0_0 hk)) (okc (lv_load (v := .slice _ _ _) rfl rfl (by exact ld_blk mt rfl)) okn)), ?_⟩
    refine xp_pure (i := 15) rfl (by kernel_rfl) (by kernel_rfl) rfl rfl rfl (pv_nilCheck_p rfl rfl) ?_
    refine xp_pure (i := 16) rfl (by kernel_rfl) (by kernel_rfl) rfl rfl rfl (pv_fieldAddr rfl rfl) ?_
    refine xp_heavy (i := 17) (by kernel_rfl) ?_
    refine xph_store rfl rfl rfl (hv_store (vs := [.slice _ _ _]) rfl rfl rfl (mt) rfl (Nat.le_of_ble_eq_true rfl) rfl) (pd (by kernel_rfl) (pd (by kernel_rfl) pn)) ?_
    rintro v7_17 H7_17 ⟨hU7_17, hZ7_17⟩
    have m0_0 := m0_0.off hU7_17.but (by first | exact nmt_0_0.symm | exact ⟨m0_0.ne mt rfl⟩ | exact ⟨m0_0.ne mt (by assumption)⟩ | exact ⟨Ne.symm (mt.ne m0_0 (by assumption))⟩)
    have hRn := hRn.offT mt hU7_17.but (by first | rfl | assumption)
    have hX := hX.trans hU7_17.but
    have mt := hU7_17.blk
    replace mt : Blk H7_17 bt (.slice a7_14 (putR l (k ++ [x])).length c7_14 :: rest) t := by rw [eL]; exact mt
    refine ⟨okn, ?_⟩
    refine xp_done (by kernel_rfl) ?_
    refine xthen_normal ?_
    refine xc_seq ?_
    refine xc_region ?_
    refine xl_pure rfl rfl rfl (pv_move (v := .bool _) rfl rfl) ?_
    refine xl_pure rfl rfl rfl (pv_not rfl rfl) ?_
    refine xl_pure rfl rfl rfl (pv_assign (v := .bool _) rfl rfl) ?_
    refine xl_nil ?_
    refine xthen_normal ?_
    refine xc_ret ?_
    refine fin_ret (res1 (v := .bool _) rfl rfl) ?_
    exact ⟨_, _, by first | (rw [hh3_2]; done) | rfl, ⟨hX, mt⟩, hRn, hcn, hcap⟩
  · skip
    refine xl_pure rfl rfl rfl (pv_move (v := .tuple _) rfl rfl) ?_
    refine xl_pure rfl rfl rfl (pv_extract (v := .int _ _) rfl rfl rfl) ?_
    refine xl_pure rfl rfl rfl (pv_extract (v := .bool _) rfl rfl rfl) ?_
    refine xl_pure rfl rfl rfl (pv_assign (v := .int _ _) rfl rfl) ?_
    refine xl_pure rfl rfl rfl (pv_assign (v := .bool _) rfl rfl) ?_
    refine xl_nil ?_
    refine xthen_normal ?_
    refine xc_seq ?_
    have hbl := bel_le l k
    refine xc_region ?_
    refine xl_pure rfl rfl rfl (pv_move (v := .pointer _) rfl rfl) ?_
    refine xl_pure rfl rfl rfl (pv_nilCheck_p rfl rfl) ?_
    refine xl_pure rfl rfl rfl (pv_fieldAddr rfl rfl) ?_
    refine xl_light rfl rfl rfl (lv_load (v := .slice _ _ _) rfl rfl (ld_blk mt rfl)) ?_
    refine xl_pure rfl rfl rfl (pv_move (v := .int _ _) rfl rfl) ?_
    refine xl_pure rfl rfl rfl (pv_slice_l rfl rfl (.none _) (.none _) (.some rfl (by omega)) (by omega) (by simp)) ?_
    refine xl_pure rfl rfl rfl (pv_assign (v := .slice _ _ _) rfl rfl) ?_
    refine xl_nil ?_
    refine xthen_normal ?_
    refine xc_seq ?_
    refine xc_seq ?_
    refine xc_region ?_
    refine xl_pure rfl rfl rfl (pv_move (v := .bool _) rfl rfl) ?_
    refine xl_nil ?_
    refine xthen_normal ?_
    refine xc_cond_t rfl ?_
    have hlt := has_lt hs hR.wide (by decide) hk hh3_2
    refine xc_region ?_
    refine xl_pure rfl rfl rfl (pv_move (v := .slice _ _ _) rfl rfl) ?_
    refine xl_pure rfl rfl rfl (pv_slice_l rfl rfl (.none _) (.none _) (.some rfl (by omega)) (by omega) (by simp)) ?_
    refine xl_pure rfl rfl rfl (pv_assign (v := .slice _ _ _) rfl rfl) ?_
    refine xl_nil ?_
    refine xthen_normal ?_
    refine xc_seq ?_
    have hRc := hR
    have hlw := hR.wide
    refine xp_start rfl (by repeat (first | with_reducible exact np_fin | with_reducible exact np_ret | with_reducible refine np_then ?_ | with_reducible refine np_block ?_)) (by kernel_rfl) ?_
    refine xp_pure (i := 0) rfl (by kernel_rfl) (by kernel_rfl) rfl rfl rfl (pv_move (v := .pointer _) rfl rfl) ?_
    refine xp_pure (i := 1) rfl (by kernel_rfl) (by kernel_rfl) rfl rfl rfl (pv_move (v := .pointer _) rfl rfl) ?_
    refine xp_pure (i := 2) rfl (by kernel_rfl) (by kernel_rfl) rfl rfl rfl (pv_nilCheck_p rfl rfl) ?_
    refine xp_pure (i := 3) rfl (by kernel_rfl) (by kernel_rfl) rfl rfl rfl (pv_fieldAddr rfl rfl) ?_
    refine xp_light (i := 4) rfl (by kernel_rfl) (by kernel_rfl) rfl rfl rfl (lv_load (v := .slice _ _ _) rfl rfl (by exact ld_blk mt rfl)) ?_
    refine xp_pure (i := 5) rfl (by kernel_rfl) (by kernel_rfl) rfl rfl rfl (pv_move (v := .int _ _) rfl rfl) ?_
    refine xp_pure (i := 6) rfl (by kernel_rfl) (by kernel_rfl) rfl rfl rfl (pv_move (v := .int _ _) rfl rfl) ?_
    refine xp_pure (i := 7) rfl (by kernel_rfl) (by kernel_rfl) rfl rfl rfl (pv_slice_l rfl rfl (.some rfl (by omega)) (.some rfl (by omega)) (.none _) (by omega) (by simp)) ?_
    refine xp_light (i := 8) rfl (by kernel_rfl) (by kernel_rfl) rfl rfl rfl (lv_load (v := .agg _) rfl rfl (by exact ld_ints m0_0 hk)) ?_
    refine xp_pure (i := 9) rfl (by kernel_rfl) (by kernel_rfl) rfl rfl rfl (pv_move (v := .int _ _) rfl rfl) ?_
    refine xp_pure (i := 10) rfl (by kernel_rfl) (by kernel_rfl) rfl rfl rfl (pv_build_pair (xs := ints k) (ys := [.int .i64 x]) rfl rfl rfl rfl rfl (by rw [ints_ten hk]; rfl) (by rw [ints_ten hk]; rfl) (by rw [ints_ten hk]; rfl)) ?_
    refine xp_pure (i := 13) rfl (by kernel_rfl) (by kernel_rfl) rfl rfl rfl (pv_move (v := .slice _ _ _) rfl rfl) ?_
    refine xp_heavy (i := 11) (by kernel_rfl) ?_
    refine xph_val rfl rfl rfl rfl (hv_buildSlice (cs := (ints k ++ [.int .i64 x])) rfl rfl (parts1 (by simp [ints, hk])) rfl rfl) (pk (by kernel_rfl) (pk (by kernel_rfl) pn)) ?_
    rintro v7_11 H7_11 ⟨b7_11, rfl, hN7_11⟩
    have gb7_11 := hX.fresh hN7_11
    have nmt_7_11 := mt.apart hN7_11
    have nm0_0_7_11 := m0_0.apart hN7_11
    have mt := mt.ext hN7_11.ext
    have hR := hR.ext hN7_11.ext
    have m0_0 := m0_0.ext hN7_11.ext
    have hX := hX.transE hN7_11.ext
    have m7_11 := hN7_11.blk
    have hz7_11 := hX.size
    have hRc := hRc.ext hN7_11.ext
    refine ⟨(okc (lv_load (v := .agg _) rfl rfl (by exact ld_ints m0_0 hk)) (okc (lv_load (v := .slice _ _ _) rfl rfl (by exact ld_blk mt rfl)) okn)), ?_⟩
    refine xp_heavy (i := 12) (by kernel_rfl) ?_
    refine xph_val rfl rfl rfl rfl (hv_append_full (size := 5) (l := l.take (bel l k)) (l' := [(k ++ [x])]) rfl rfl (by simp; try omega) (by rw [cutA_0]; exact hRc.take (by omega)) rfl rfl (rowsT1 m7_11 (by simp [ints]) (by simp [hk])) (by decide) rfl (by decide) (by omega) (by omega) (fun h => by rw [cutA_0] at h; have := hna h; omega)) (pk (by kernel_rfl) (pk (by kernel_rfl) pn)) ?_
    rintro v7_12 H7_12 ⟨hO7_12, hE7_12⟩
    have mt := mt.ext hE7_12
    have hR := hR.ext hE7_12
    have m0_0 := m0_0.ext hE7_12
    have m7_11 := m7_11.ext hE7_12
    have hX := hX.transE hE7_12
    have hRc := hRc.ext hE7_12
    obtain ⟨a7_12, c7_12, rfl⟩ := hO7_12.val
    refine ⟨(okc (lv_load (v := .agg _) rfl rfl (by exact ld_ints m0_0 hk)) (okc (lv_load (v := .slice _ _ _) rfl rfl (by exact ld_blk mt rfl)) okn)), ?_⟩
    refine xp_heavy (i := 14) (by kernel_rfl) ?_
    refine xph_val rfl rfl rfl rfl (hv_append_rows (size := 5) (l := l.take (bel l k) ++ [(k ++ [x])]) (l' := (l.drop (bel l k)).drop 1) rfl rfl hO7_12 rfl (by simp; try omega) (by exact ((hRc.cut (by omega) hc).cut (by simp; omega) (by simp; omega))) rfl (by decide) (by omega) (by omega) hE7_12.size) (pk (by kernel_rfl) (pk (by kernel_rfl) pn)) ?_
    rintro v7_14 H7_14 ⟨hO7_14, hG7_14⟩
    have mt := mt.offT hO7_12 hG7_14 hne
    have m0_0 := m0_0.offT hO7_12 hG7_14 rfl
    have hX := hO7_12.grownB hX hG7_14 hz7_11
    obtain ⟨a7_14, c7_14, rfl⟩ := hO7_14.val
    have hcap := own_cap hO7_14
    have eL : (putR l (k ++ [x])).length = bel l k - 0 + 1 + (l.length - bel l k - 1) := by rw [put_has hk hh3_2]; simp; omega
    replace hO7_14 : Own H7_14 H7_11.size 138 5 (.slice a7_14 (putR l (k ++ [x])).length c7_14) (putR l (k ++ [x])).length (fr (putR l (k ++ [x]))) := by rw [eL, put_has hk hh3_2]; exact hO7_14
    have hRn := own_rowsT (wide_put hRc.wide (by simp [hk])) hO7_14
    have hcn : (putR l (k ++ [x])).length ≤ c7_14 := by rcases own_blk hO7_14 with ⟨h1, h2⟩ | ⟨_, _, _, _, _, h2⟩; omega; exact h2
    refine ⟨(okc (lv_load (v := .agg _) rfl rfl (by exact ld_ints m0_0 hk)) (okc (lv_load (v := .slice _ _ _) rfl rfl (by exact ld_blk mt rfl)) okn)), ?_⟩
    refine xp_pure (i := 15) rfl (by kernel_rfl) (by kernel_rfl) rfl rfl rfl (pv_nilCheck_p rfl rfl) ?_
    refine xp_pure (i := 16) rfl (by kernel_rfl) (by kernel_rfl) rfl rfl rfl (pv_fieldAddr rfl rfl) ?_
    refine xp_heavy (i := 17) (by kernel_rfl) ?_
    refine xph_store rfl rfl rfl (hv_store (vs := [.slice _ _ _]) rfl rfl rfl (mt) rfl (Nat.le_of_ble_eq_true rfl) rfl) (pd (by kernel_rfl) (pd (by kernel_rfl) pn)) ?_
    rintro v7_17 H7_17 ⟨hU7_17, hZ7_17⟩
    have m0_0 := m0_0.off hU7_17.but (by first | exact nmt_0_0.symm | exact ⟨m0_0.ne mt rfl⟩ | exact ⟨m0_0.ne mt (by assumption)⟩ | exact ⟨Ne.symm (mt.ne m0_0 (by assumption))⟩)
    have hRn := hRn.offT mt hU7_17.but (by first | rfl | assumption)
    have hX := hX.trans hU7_17.but
    have mt := hU7_17.blk
    replace mt : Blk H7_17 bt (.slice a7_14 (putR l (k ++ [x])).length c7_14 :: rest) t := by rw [eL]; exact mt
    refine ⟨okn, ?_⟩
    refine xp_done (by kernel_rfl) ?_
    refine xthen_normal ?_
    refine xc_seq ?_
    refine xc_region ?_
    refine xl_pure rfl rfl rfl (pv_move (v := .bool _) rfl rfl) ?_
    refine xl_pure rfl rfl rfl (pv_not rfl rfl) ?_
    refine xl_pure rfl rfl rfl (pv_assign (v := .bool _) rfl rfl) ?_
    refine xl_nil ?_
    refine xthen_normal ?_
    refine xc_ret ?_
    refine fin_ret (res1 (v := .bool _) rfl rfl) ?_
    exact ⟨_, _, by first | (rw [hh3_2]; done) | rfl, ⟨hX, mt⟩, hRn, hcn, hcap⟩

theorem c46n {O : Outer} {H : Heap}  (k : List Int) (hk : k.length = 4) (x : Int) :
    FnC Try.prog 46 #[.pointer none, .agg (ints k).toArray, .int .i64 x] O H (fun v H' => v = .bool false ∧ Ext H H') := by
  refine fn_enter (A := [.pointer none, .agg (ints k).toArray, .int .i64 x]) Try.func46 rfl rfl ?_
  have hX := Ext.refl H
  refine xc_seq ?_
  refine xc_region ?_
  refine xl_heavy rfl rfl rfl (hv_box rfl rfl) ?_
  rintro v0_0 H0_0 ⟨b0_0, rfl, hN0_0⟩
  have gb0_0 := hX.fresh hN0_0
  have hX := hX.trans hN0_0.ext
  have m0_0 := hN0_0.blk
  refine xl_pure rfl rfl rfl (pv_assign (v := .bool _) rfl rfl) ?_
  refine xl_nil ?_
  refine xthen_normal ?_
  refine xc_seq ?_
  refine xc_seq ?_
  refine xc_region ?_
  refine xl_pure rfl rfl rfl (pv_move (v := .pointer _) rfl rfl) ?_
  refine xl_pure rfl rfl rfl (pv_eql_nn rfl rfl rfl) ?_
  refine xl_nil ?_
  refine xthen_normal ?_
  refine xc_cond_t rfl ?_
  refine xc_seq ?_
  refine xc_region ?_
  refine xl_pure rfl rfl rfl (pv_assign (v := .bool _) rfl rfl) ?_
  refine xl_nil ?_
  refine xthen_normal ?_
  refine xc_ret ?_
  refine xthen_ret ?_
  refine fin_ret (res1 (v := .bool _) rfl rfl) ?_
  exact ⟨rfl, hX⟩
end Go.XG
