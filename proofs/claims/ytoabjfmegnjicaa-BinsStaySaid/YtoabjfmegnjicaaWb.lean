/-
  Walks of the seat's functions over the logic XG: each function, what it computes. Printed by a program out of wip/walks.py.
-/
import Derived.Test.YtoabjfmegnjicaaI
import Derived.Test.YtoabjfmegnjicaaTo
import Derived.Test.YtoabjfmegnjicaaTa
import Derived.Test.YtoabjfmegnjicaaTb
import Derived.Test.YtoabjfmegnjicaaTc
import Derived.Test.YtoabjfmegnjicaaTd
import Derived.Test.YtoabjfmegnjicaaQ
import Derived.Test.YtoabjfmegnjicaaWa
namespace Go.XG
open Go.Proofs
set_option maxRecDepth 4000
set_option maxHeartbeats 4000000
theorem c53 {O : Outer} {H : Heap} (a0 a1 a2 a3 b0 b1 b2 b3 : Int) :
    FnC Try.prog 53 #[.agg #[.int .i64 a0, .int .i64 a1, .int .i64 a2, .int .i64 a3], .agg #[.int .i64 b0, .int .i64 b1, .int .i64 b2, .int .i64 b3]] O H (fun v H' => (kcmp [a0, a1, a2, a3] [b0, b1, b2, b3] < 0 ∧ v = .bool true ∨ ¬ kcmp [a0, a1, a2, a3] [b0, b1, b2, b3] < 0 ∧ v = .bool false) ∧ Ext H H') := by
  refine fn_enter (A := [.agg #[.int .i64 a0, .int .i64 a1, .int .i64 a2, .int .i64 a3], .agg #[.int .i64 b0, .int .i64 b1, .int .i64 b2, .int .i64 b3]]) Try.func53 rfl rfl ?_
  have hX := Ext.refl H
  refine xc_seq ?_
  refine xc_region ?_
  refine xl_heavy rfl rfl rfl (hv_box rfl rfl) ?_
  rintro v0_0 H0_0 ⟨b0_0, rfl, hN0_0⟩
  have gb0_0 := hX.fresh hN0_0
  have hX := hX.trans hN0_0.ext
  have m0_0 := hN0_0.blk
  refine xl_heavy rfl rfl rfl (hv_box rfl rfl) ?_
  rintro v0_1 H0_1 ⟨b0_1, rfl, hN0_1⟩
  have gb0_1 := hX.fresh hN0_1
  have nm0_0_0_1 := m0_0.apart hN0_1
  have m0_0 := m0_0.ext hN0_1.ext
  have hX := hX.trans hN0_1.ext
  have m0_1 := hN0_1.blk
  refine xl_pure rfl rfl rfl (pv_assign (v := .bool _) rfl rfl) ?_
  refine xl_nil ?_
  refine xthen_normal ?_
  refine xc_seq ?_
  refine xc_seq ?_
  refine xc_region ?_
  refine xl_pure rfl rfl rfl (pv_fieldAddr rfl rfl) ?_
  refine xl_light rfl rfl rfl (lv_load (v := .int _ _) rfl rfl (ld_blk m0_0 rfl)) ?_
  refine xl_pure rfl rfl rfl (pv_fieldAddr rfl rfl) ?_
  refine xl_light rfl rfl rfl (lv_load (v := .int _ _) rfl rfl (ld_blk m0_1 rfl)) ?_
  refine xl_ndec rfl rfl rfl (pv_neq rfl rfl rfl) (fun h1_4 => ?_) (fun h1_4 => ?_)
  · skip
    refine xl_nil ?_
    refine xthen_normal ?_
    refine xc_cond_f rfl ?_
    refine xc_skip ?_
    refine xthen_normal ?_
    refine xc_seq ?_
    refine xc_seq ?_
    refine xc_region ?_
    refine xl_pure rfl rfl rfl (pv_fieldAddr rfl rfl) ?_
    refine xl_light rfl rfl rfl (lv_load (v := .int _ _) rfl rfl (ld_blk m0_0 rfl)) ?_
    refine xl_pure rfl rfl rfl (pv_fieldAddr rfl rfl) ?_
    refine xl_light rfl rfl rfl (lv_load (v := .int _ _) rfl rfl (ld_blk m0_1 rfl)) ?_
    refine xl_ndec rfl rfl rfl (pv_neq rfl rfl rfl) (fun h3_4 => ?_) (fun h3_4 => ?_)
    · skip
      refine xl_nil ?_
      refine xthen_normal ?_
      refine xc_cond_f rfl ?_
      refine xc_skip ?_
      refine xthen_normal ?_
      refine xc_seq ?_
      refine xc_seq ?_
      refine xc_region ?_
      refine xl_pure rfl rfl rfl (pv_fieldAddr rfl rfl) ?_
      refine xl_light rfl rfl rfl (lv_load (v := .int _ _) rfl rfl (ld_blk m0_0 rfl)) ?_
      refine xl_pure rfl rfl rfl (pv_fieldAddr rfl rfl) ?_
      refine xl_light rfl rfl rfl (lv_load (v := .int _ _) rfl rfl (ld_blk m0_1 rfl)) ?_
      refine xl_ndec rfl rfl rfl (pv_neq rfl rfl rfl) (fun h5_4 => ?_) (fun h5_4 => ?_)
      · skip
        refine xl_nil ?_
        refine xthen_normal ?_
        refine xc_cond_f rfl ?_
        refine xc_skip ?_
        refine xthen_normal ?_
        refine xc_seq ?_
        refine xc_region ?_
        refine xl_pure rfl rfl rfl (pv_fieldAddr rfl rfl) ?_
        refine xl_light rfl rfl rfl (lv_load (v := .int _ _) rfl rfl (ld_blk m0_0 rfl)) ?_
        refine xl_pure rfl rfl rfl (pv_fieldAddr rfl rfl) ?_
        refine xl_light rfl rfl rfl (lv_load (v := .int _ _) rfl rfl (ld_blk m0_1 rfl)) ?_
        refine xl_dec rfl rfl rfl (pv_lss rfl rfl rfl) (fun h7_4 => ?_) (fun h7_4 => ?_)
        · skip
          refine xl_pure rfl rfl rfl (pv_assign (v := .bool _) rfl rfl) ?_
          refine xl_nil ?_
          refine xthen_normal ?_
          refine xc_ret ?_
          refine fin_ret (res1 (v := .bool _) rfl rfl) ?_
          first
            | exact ⟨.inl ⟨by rw [kcmp4]; omega, rfl⟩, hX⟩
            | exact ⟨.inr ⟨by rw [kcmp4]; omega, rfl⟩, hX⟩
        · skip
          refine xl_pure rfl rfl rfl (pv_assign (v := .bool _) rfl rfl) ?_
          refine xl_nil ?_
          refine xthen_normal ?_
          refine xc_ret ?_
          refine fin_ret (res1 (v := .bool _) rfl rfl) ?_
          first
            | exact ⟨.inl ⟨by rw [kcmp4]; omega, rfl⟩, hX⟩
            | exact ⟨.inr ⟨by rw [kcmp4]; omega, rfl⟩, hX⟩
      · skip
        refine xl_nil ?_
        refine xthen_normal ?_
        refine xc_cond_t rfl ?_
        refine xc_seq ?_
        refine xc_region ?_
        refine xl_pure rfl rfl rfl (pv_fieldAddr rfl rfl) ?_
        refine xl_light rfl rfl rfl (lv_load (v := .int _ _) rfl rfl (ld_blk m0_0 rfl)) ?_
        refine xl_pure rfl rfl rfl (pv_fieldAddr rfl rfl) ?_
        refine xl_light rfl rfl rfl (lv_load (v := .int _ _) rfl rfl (ld_blk m0_1 rfl)) ?_
        refine xl_dec rfl rfl rfl (pv_lss rfl rfl rfl) (fun h6_4 => ?_) (fun h6_4 => ?_)
        · skip
          refine xl_pure rfl rfl rfl (pv_assign (v := .bool _) rfl rfl) ?_
          refine xl_nil ?_
          refine xthen_normal ?_
          refine xc_ret ?_
          refine xthen_ret ?_
          refine fin_ret (res1 (v := .bool _) rfl rfl) ?_
          first
            | exact ⟨.inl ⟨by rw [kcmp4]; omega, rfl⟩, hX⟩
            | exact ⟨.inr ⟨by rw [kcmp4]; omega, rfl⟩, hX⟩
        · skip
          refine xl_pure rfl rfl rfl (pv_assign (v := .bool _) rfl rfl) ?_
          refine xl_nil ?_
          refine xthen_normal ?_
          refine xc_ret ?_
          refine xthen_ret ?_
          refine fin_ret (res1 (v := .bool _) rfl rfl) ?_
          first
            | exact ⟨.inl ⟨by rw [kcmp4]; omega, rfl⟩, hX⟩
            | exact ⟨.inr ⟨by rw [kcmp4]; omega, rfl⟩, hX⟩
    · skip
      refine xl_nil ?_
      refine xthen_normal ?_
      refine xc_cond_t rfl ?_
      refine xc_seq ?_
      refine xc_region ?_
      refine xl_pure rfl rfl rfl (pv_fieldAddr rfl rfl) ?_
      refine xl_light rfl rfl rfl (lv_load (v := .int _ _) rfl rfl (ld_blk m0_0 rfl)) ?_
      refine xl_pure rfl rfl rfl (pv_fieldAddr rfl rfl) ?_
      refine xl_light rfl rfl rfl (lv_load (v := .int _ _) rfl rfl (ld_blk m0_1 rfl)) ?_
      refine xl_dec rfl rfl rfl (pv_lss rfl rfl rfl) (fun h4_4 => ?_) (fun h4_4 => ?_)
      · skip
        refine xl_pure rfl rfl rfl (pv_assign (v := .bool _) rfl rfl) ?_
        refine xl_nil ?_
        refine xthen_normal ?_
        refine xc_ret ?_
        refine xthen_ret ?_
        refine fin_ret (res1 (v := .bool _) rfl rfl) ?_
        first
          | exact ⟨.inl ⟨by rw [kcmp4]; omega, rfl⟩, hX⟩
          | exact ⟨.inr ⟨by rw [kcmp4]; omega, rfl⟩, hX⟩
      · skip
        refine xl_pure rfl rfl rfl (pv_assign (v := .bool _) rfl rfl) ?_
        refine xl_nil ?_
        refine xthen_normal ?_
        refine xc_ret ?_
        refine xthen_ret ?_
        refine fin_ret (res1 (v := .bool _) rfl rfl) ?_
        first
          | exact ⟨.inl ⟨by rw [kcmp4]; omega, rfl⟩, hX⟩
          | exact ⟨.inr ⟨by rw [kcmp4]; omega, rfl⟩, hX⟩
  · skip
    refine xl_nil ?_
    refine xthen_normal ?_
    refine xc_cond_t rfl ?_
    refine xc_seq ?_
    refine xc_region ?_
    refine xl_pure rfl rfl rfl (pv_fieldAddr rfl rfl) ?_
    refine xl_light rfl rfl rfl (lv_load (v := .int _ _) rfl rfl (ld_blk m0_0 rfl)) ?_
    refine xl_pure rfl rfl rfl (pv_fieldAddr rfl rfl) ?_
    refine xl_light rfl rfl rfl (lv_load (v := .int _ _) rfl rfl (ld_blk m0_1 rfl)) ?_
    refine xl_dec rfl rfl rfl (pv_lss rfl rfl rfl) (fun h2_4 => ?_) (fun h2_4 => ?_)
    · skip
      refine xl_pure rfl rfl rfl (pv_assign (v := .bool _) rfl rfl) ?_
      refine xl_nil ?_
      refine xthen_normal ?_
      refine xc_ret ?_
      refine xthen_ret ?_
      refine fin_ret (res1 (v := .bool _) rfl rfl) ?_
      first
        | exact ⟨.inl ⟨by rw [kcmp4]; omega, rfl⟩, hX⟩
        | exact ⟨.inr ⟨by rw [kcmp4]; omega, rfl⟩, hX⟩
    · skip
      refine xl_pure rfl rfl rfl (pv_assign (v := .bool _) rfl rfl) ?_
      refine xl_nil ?_
      refine xthen_normal ?_
      refine xc_ret ?_
      refine xthen_ret ?_
      refine fin_ret (res1 (v := .bool _) rfl rfl) ?_
      first
        | exact ⟨.inl ⟨by rw [kcmp4]; omega, rfl⟩, hX⟩
        | exact ⟨.inr ⟨by rw [kcmp4]; omega, rfl⟩, hX⟩

theorem c53k {O : Outer} {H : Heap} (a b : List Int) (ha : a.length = 4) (hb : b.length = 4) :
    FnC Try.prog 53 #[.agg (ints a).toArray, .agg (ints b).toArray] O H (fun v H' => (kcmp a b < 0 ∧ v = .bool true ∨ ¬ kcmp a b < 0 ∧ v = .bool false) ∧ Ext H H') := by
  obtain ⟨a0, a1, a2, a3, rfl⟩ := four ha
  obtain ⟨b0, b1, b2, b3, rfl⟩ := four hb
  exact c53 a0 a1 a2 a3 b0 b1 b2 b3

theorem c21 {O : Outer} {H : Heap} {a : Option Addr} {c : Nat} {l : List (List Int)} (hx : RowsT H 74 5 a l) (hs : Srt l) (hl : l.length < 1000000) (k : List Int) (hk : k.length = 4) :
    FnC Try.prog 21 #[.slice a l.length c, .agg (ints k).toArray] O H (fun v H' => v = .int .i64 (qtyB l k) ∧ Ext H H') := by
  refine fn_enter (A := [.slice a l.length c, .agg (ints k).toArray]) Try.func21 rfl rfl ?_
  have hX := Ext.refl H
  refine xc_seq ?_
  refine xc_region ?_
  refine xl_heavy rfl rfl rfl (hv_box rfl rfl) ?_
  rintro v0_0 H0_0 ⟨b0_0, rfl, hN0_0⟩
  have gb0_0 := hX.fresh hN0_0
  have hX := hX.trans hN0_0.ext
  have m0_0 := hN0_0.blk
  refine xl_pure rfl rfl rfl (pv_assign (v := .int _ _) rfl rfl) ?_
  refine xl_nil ?_
  refine xthen_normal ?_
  refine xc_seq ?_
  refine xc_seq ?_
  refine xc_region ?_
  refine xl_pure rfl rfl rfl (pv_assign (v := .int _ _) rfl rfl) ?_
  refine xl_nil ?_
  refine xthen_normal ?_
  refine xc_block ?_
  refine xc_loop (τ := Nat) (fun t => [(0, .slice a l.length c), (3, .pointer (some ⟨b0_0, 0, none⟩)), (5, .int .i64 (t : Nat))]) (fun t H' => (t ≤ l.length) ∧ (∀ j, j < t → ky (gr l j) ≠ k) ∧ (Blk H' b0_0 (ints k) 23) ∧ (Ext H H')) (fun t H' => l.length - t) 0 ?_ ?_ ?_
  · exact ⟨rfl, rfl, rfl, trivial⟩
  · skip
    exact ⟨Nat.zero_le _, fun j hj => absurd hj (by omega), m0_0, hX⟩
  · intro σ
    clear hX m0_0
    rintro i Hl2 ⟨hi, hlo, m0_0, hX⟩
    replace hi : i ≤ l.length := hi
    replace hlo : ∀ j, j < i → ky (gr l j) ≠ k := hlo
    replace m0_0 : Blk Hl2 b0_0 (ints k) 23 := m0_0
    replace hX : Ext H Hl2 := hX
    obtain ⟨ba, off, hae⟩ := (hx.ext hX).at
    show XC _ _ _ (upds σ [(0, .slice a l.length c), (3, .pointer (some ⟨b0_0, 0, none⟩)), (5, .int .i64 (i : Nat))]) _
    refine xc_seq ?_
    refine xc_seq ?_
    refine xc_region ?_
    refine xl_pure rfl rfl rfl (pv_move (v := .int _ _) rfl rfl) ?_
    refine xl_pure rfl rfl rfl (pv_move (v := .slice _ _ _) rfl rfl) ?_
    refine xl_pure rfl rfl rfl (pv_len_l rfl rfl) ?_
    refine xl_dec rfl rfl rfl (pv_lss rfl rfl rfl) (fun h2_3 => ?_) (fun h2_3 => ?_)
    · skip
      refine xl_nil ?_
      refine xthen_normal ?_
      refine xc_cond_t rfl ?_
      refine xc_skip ?_
      refine xthen_normal ?_
      refine xc_seq ?_
      refine xc_block ?_
      refine xc_seq ?_
      refine xp_start rfl (by repeat (first | with_reducible exact np_fin | with_reducible exact np_ret | with_reducible refine np_then ?_ | with_reducible refine np_block ?_)) (by kernel_rfl) ?_
      refine xp_pure (i := 0) rfl (by kernel_rfl) (by kernel_rfl) rfl rfl rfl (pv_move (v := .slice _ _ _) rfl rfl) ?_
      refine xp_pure (i := 1) rfl (by kernel_rfl) (by kernel_rfl) rfl rfl rfl (pv_move (v := .int _ _) rfl rfl) ?_
      refine xp_pure (i := 2) rfl (by kernel_rfl) (by kernel_rfl) rfl rfl rfl (pv_indexAddr_l rfl (sl_eq (hae (by omega)).1) rfl (by omega)) ?_
      refine xp_pure (i := 3) rfl (by kernel_rfl) (by kernel_rfl) rfl rfl rfl (pv_fieldAddr rfl rfl) ?_
      refine xp_light (i := 4) rfl (by kernel_rfl) (by kernel_rfl) rfl rfl rfl (lv_load (v := .agg _) rfl rfl (by exact ld_rky (hae (by omega)).2 hx.wide (by decide) (by omega))) ?_
      refine xp_light (i := 5) rfl (by kernel_rfl) (by kernel_rfl) rfl rfl rfl (lv_load (v := .agg _) rfl rfl (by exact ld_ints m0_0 hk)) ?_
      refine xp_dec (i := 6) rfl (by kernel_rfl) (by kernel_rfl) rfl rfl rfl (pv_eql_g (ky (gr l i)) k rfl rfl rfl (ky_len (hx.wide.get (by omega)) (by decide)) hk) (fun h4_6 => ?_) (fun h4_6 => ?_)
      · skip
        refine xp_done (by kernel_rfl) ?_
        refine xthen_normal ?_
        refine xc_cond_t rfl ?_
        refine xc_seq ?_
        refine xc_region ?_
        refine xl_pure rfl rfl rfl (pv_move (v := .slice _ _ _) rfl rfl) ?_
        refine xl_pure rfl rfl rfl (pv_move (v := .int _ _) rfl rfl) ?_
        refine xl_pure rfl rfl rfl (pv_indexAddr_l rfl (sl_eq (hae (by omega)).1) rfl (by omega)) ?_
        refine xl_pure rfl rfl rfl (pv_fieldAddr rfl rfl) ?_
        refine xl_light rfl rfl rfl (lv_load (v := .int _ _) rfl rfl (by exact ld_num (j := 4) (hae (by omega)).2 hx.wide (by omega) (by decide))) ?_
        refine xl_pure rfl rfl rfl (pv_assign (v := .int _ _) rfl rfl) ?_
        refine xl_nil ?_
        refine xthen_normal ?_
        refine xc_ret ?_
        refine xblock_ret ?_
        refine xthen_ret ?_
        refine xthen_ret ?_
        refine xblock_ret ?_
        refine xthen_ret ?_
        refine fin_ret (res1 (v := .int _ _) rfl rfl) ?_
        exact ⟨iv (qty_at hs hx.wide hk (by omega) h4_6).symm, hX⟩
      · skip
        refine xp_done (by kernel_rfl) ?_
        refine xthen_normal ?_
        refine xc_cond_f rfl ?_
        refine xc_skip ?_
        refine xblock_normal ?_
        refine xthen_normal ?_
        refine xc_region ?_
        refine xl_pure rfl rfl rfl (pv_move (v := .int _ _) rfl rfl) ?_
        refine xl_pure rfl rfl rfl (pv_add rfl rfl rfl (fit_i64 (by omega))) ?_
        refine xl_pure rfl rfl rfl (pv_assign (v := .int _ _) rfl rfl) ?_
        refine xl_nil ?_
        refine xthen_normal ?_
        exact ⟨i + 1, ⟨rfl, rfl, rfl, trivial⟩, ⟨by (try simp only); omega, all_next hlo h4_6, m0_0, hX⟩, by (try simp only); omega⟩
    · skip
      refine xl_nil ?_
      refine xthen_normal ?_
      refine xc_cond_f rfl ?_
      refine xc_exit ?_
      refine xthen_exit ?_
      refine xthen_exit ?_
      refine xblock_same ?_
      refine xthen_normal ?_
      refine xc_seq ?_
      refine xc_region ?_
      refine xl_pure rfl rfl rfl (pv_assign (v := .int _ _) rfl rfl) ?_
      refine xl_nil ?_
      refine xthen_normal ?_
      refine xc_ret ?_
      refine fin_ret (res1 (v := .int _ _) rfl rfl) ?_
      exact ⟨iv (qty_no hs hx.wide hk (fun j hj => hlo j (by omega))).symm, hX⟩

theorem c16 {O : Outer} {H : Heap} (l m : List (List Int)) (a a' : Option Addr) (c c' : Nat) (hs : Rows H a 5 l) (hs' : Rows H a' 5 m) (hl : l.length < 4611686018427387904) :
    FnC Try.prog 16 #[.slice a l.length c, .slice a' m.length c'] O H (fun v H' => ∃ r, v = .bool r ∧ (r = true ↔ l = m) ∧ H = H') := by
  refine fn_enter (A := [.slice a l.length c, .slice a' m.length c']) Try.func16 rfl rfl ?_
  refine xc_seq ?_
  refine xc_region ?_
  refine xl_pure rfl rfl rfl (pv_assign (v := .bool _) rfl rfl) ?_
  refine xl_nil ?_
  refine xthen_normal ?_
  refine xc_seq ?_
  refine xc_seq ?_
  refine xc_region ?_
  refine xl_pure rfl rfl rfl (pv_move (v := .slice _ _ _) rfl rfl) ?_
  refine xl_pure rfl rfl rfl (pv_len_l rfl rfl) ?_
  refine xl_pure rfl rfl rfl (pv_move (v := .slice _ _ _) rfl rfl) ?_
  refine xl_pure rfl rfl rfl (pv_len_l rfl rfl) ?_
  refine xl_ndec rfl rfl rfl (pv_neq rfl rfl rfl) (fun h1_4 => ?_) (fun h1_4 => ?_)
  · skip
    refine xl_nil ?_
    refine xthen_normal ?_
    refine xc_cond_f rfl ?_
    refine xc_skip ?_
    refine xthen_normal ?_
    refine xc_seq ?_
    refine xc_seq ?_
    refine xc_region ?_
    refine xl_pure rfl rfl rfl (pv_assign (v := .int _ _) rfl rfl) ?_
    refine xl_nil ?_
    refine xthen_normal ?_
    refine xc_block ?_
    refine xc_loop (τ := Nat) (fun t => [(0, .slice a l.length c), (1, .slice a' m.length c'), (5, .int .i64 (t : Nat))]) (fun t H' => t ≤ l.length ∧ (l = m ↔ l.drop t = m.drop t) ∧ H = H') (fun t H' => l.length - t) 0 ?_ ?_ ?_
    · exact ⟨rfl, rfl, rfl, trivial⟩
    · skip
      exact ⟨Nat.zero_le _, Iff.rfl, rfl⟩
    · intro σ
      rintro k Hl ⟨hk, heq, rfl⟩
      show XC _ _ _ (upds σ [(0, .slice a l.length c), (1, .slice a' m.length c'), (5, .int .i64 (k : Nat))]) _
      refine xc_seq ?_
      refine xc_seq ?_
      refine xc_region ?_
      refine xl_pure rfl rfl rfl (pv_move (v := .int _ _) rfl rfl) ?_
      refine xl_pure rfl rfl rfl (pv_move (v := .slice _ _ _) rfl rfl) ?_
      refine xl_pure rfl rfl rfl (pv_len_l rfl rfl) ?_
      refine xl_dec rfl rfl rfl (pv_lss rfl rfl rfl) (fun h4_3 => ?_) (fun h4_3 => ?_)
      · skip
        refine xl_pure rfl rfl rfl (pv_move (v := .bool _) rfl rfl) ?_
        refine xl_pure rfl rfl rfl (pv_move (v := .int _ _) rfl rfl) ?_
        refine xl_pure rfl rfl rfl (pv_move (v := .slice _ _ _) rfl rfl) ?_
        refine xl_pure rfl rfl rfl (pv_len_l rfl rfl) ?_
        refine xl_dec rfl rfl rfl (pv_lss rfl rfl rfl) (fun h4_8 => ?_) (fun h4_8 => ?_)
        · skip
          refine xl_pure rfl rfl rfl (pv_pick_t (v := .bool _) rfl rfl rfl) ?_
          refine xl_nil ?_
          refine xthen_normal ?_
          refine xc_cond_t rfl ?_
          refine xc_skip ?_
          refine xthen_normal ?_
          refine xc_seq ?_
          refine xc_block ?_
          refine xc_seq ?_
          obtain ⟨ba, off, rfl, hsa⟩ := hs.2.resolve_left (by omega)
          obtain ⟨bb, off', rfl, hsb⟩ := hs'.2.resolve_left (by omega)
          refine xp_start rfl (by repeat (first | with_reducible exact np_fin | with_reducible exact np_ret | with_reducible refine np_then ?_ | with_reducible refine np_block ?_)) (by kernel_rfl) ?_
          refine xp_pure (i := 0) rfl (by kernel_rfl) (by kernel_rfl) rfl rfl rfl (pv_move (v := .slice _ _ _) rfl rfl) ?_
          refine xp_pure (i := 1) rfl (by kernel_rfl) (by kernel_rfl) rfl rfl rfl (pv_move (v := .int _ _) rfl rfl) ?_
          refine xp_pure (i := 2) rfl (by kernel_rfl) (by kernel_rfl) rfl rfl rfl (pv_indexAddr_l rfl rfl rfl (by omega)) ?_
          refine xp_light (i := 3) rfl (by kernel_rfl) (by kernel_rfl) rfl rfl rfl (lv_load (v := .agg _) rfl rfl (by first | exact ld_row' (i := k) hsa hs.1 (by omega))) ?_
          refine xp_pure (i := 4) rfl (by kernel_rfl) (by kernel_rfl) rfl rfl rfl (pv_move (v := .slice _ _ _) rfl rfl) ?_
          refine xp_pure (i := 5) rfl (by kernel_rfl) (by kernel_rfl) rfl rfl rfl (pv_move (v := .int _ _) rfl rfl) ?_
          refine xp_pure (i := 6) rfl (by kernel_rfl) (by kernel_rfl) rfl rfl rfl (pv_indexAddr_l rfl rfl rfl (by omega)) ?_
          refine xp_light (i := 7) rfl (by kernel_rfl) (by kernel_rfl) rfl rfl rfl (lv_load (v := .agg _) rfl rfl (by first | exact ld_row' (i := k) hsb hs'.1 (by omega))) ?_
          refine xp_ndec (i := 8) rfl (by kernel_rfl) (by kernel_rfl) rfl rfl rfl (pv_neq_g (gr l k) (gr m k) rfl rfl rfl (hs.1.get (by omega)) (hs'.1.get (by omega))) (fun h6_8 => ?_) (fun h6_8 => ?_)
          · skip
            refine xp_done (by kernel_rfl) ?_
            refine xthen_normal ?_
            refine xc_cond_f rfl ?_
            refine xc_skip ?_
            refine xblock_normal ?_
            refine xthen_normal ?_
            refine xc_region ?_
            refine xl_pure rfl rfl rfl (pv_move (v := .int _ _) rfl rfl) ?_
            refine xl_pure rfl rfl rfl (pv_add rfl rfl rfl (fit_i64 (by omega))) ?_
            refine xl_pure rfl rfl rfl (pv_assign (v := .int _ _) rfl rfl) ?_
            refine xl_nil ?_
            refine xthen_normal ?_
            exact ⟨k + 1, ⟨rfl, rfl, rfl, trivial⟩, ⟨by omega, (rows_drop (by omega) (by omega) heq).trans ⟨fun h => h.2, fun h => ⟨h6_8, h⟩⟩, rfl⟩, by omega⟩
          · skip
            refine xp_done (by kernel_rfl) ?_
            refine xthen_normal ?_
            refine xc_cond_t rfl ?_
            refine xc_seq ?_
            refine xc_region ?_
            refine xl_pure rfl rfl rfl (pv_assign (v := .bool _) rfl rfl) ?_
            refine xl_nil ?_
            refine xthen_normal ?_
            refine xc_ret ?_
            refine xblock_ret ?_
            refine xthen_ret ?_
            refine xthen_ret ?_
            refine xblock_ret ?_
            refine xthen_ret ?_
            refine fin_ret (res1 (v := .bool _) rfl rfl) ?_
            exact ⟨false, rfl, ⟨fun h => absurd h (by decide), fun h => absurd ((rows_drop (by omega) (by omega) heq).1 h).1 h6_8⟩, rfl⟩
        · skip
          refine xl_pure rfl rfl rfl (pv_pick_t (v := .bool _) rfl rfl rfl) ?_
          refine xl_nil ?_
          refine xthen_normal ?_
          refine xc_cond_f rfl ?_
          refine xc_exit ?_
          refine xthen_exit ?_
          refine xthen_exit ?_
          refine xblock_same ?_
          refine xthen_normal ?_
          refine xc_seq ?_
          refine xc_region ?_
          refine xl_pure rfl rfl rfl (pv_assign (v := .bool _) rfl rfl) ?_
          refine xl_nil ?_
          refine xthen_normal ?_
          refine xc_ret ?_
          refine fin_ret (res1 (v := .bool _) rfl rfl) ?_
          exact ⟨true, rfl, ⟨fun _ => heq.2 (by rw [List.drop_of_length_le (by omega), List.drop_of_length_le (by omega)]), fun _ => rfl⟩, rfl⟩
      · skip
        refine xl_pure rfl rfl rfl (pv_move (v := .bool _) rfl rfl) ?_
        refine xl_skip rfl rfl rfl ?_
        refine xl_skip rfl rfl rfl ?_
        refine xl_skip rfl rfl rfl ?_
        refine xl_skip rfl rfl rfl ?_
        refine xl_pure rfl rfl rfl (pv_pick_f (v := .bool _) rfl rfl rfl) ?_
        refine xl_nil ?_
        refine xthen_normal ?_
        refine xc_cond_f rfl ?_
        refine xc_exit ?_
        refine xthen_exit ?_
        refine xthen_exit ?_
        refine xblock_same ?_
        refine xthen_normal ?_
        refine xc_seq ?_
        refine xc_region ?_
        refine xl_pure rfl rfl rfl (pv_assign (v := .bool _) rfl rfl) ?_
        refine xl_nil ?_
        refine xthen_normal ?_
        refine xc_ret ?_
        refine fin_ret (res1 (v := .bool _) rfl rfl) ?_
        exact ⟨true, rfl, ⟨fun _ => heq.2 (by rw [List.drop_of_length_le (by omega), List.drop_of_length_le (by omega)]), fun _ => rfl⟩, rfl⟩
  · skip
    refine xl_nil ?_
    refine xthen_normal ?_
    refine xc_cond_t rfl ?_
    refine xc_seq ?_
    refine xc_region ?_
    refine xl_pure rfl rfl rfl (pv_assign (v := .bool _) rfl rfl) ?_
    refine xl_nil ?_
    refine xthen_normal ?_
    refine xc_ret ?_
    refine xthen_ret ?_
    refine fin_ret (res1 (v := .bool _) rfl rfl) ?_
    exact ⟨false, rfl, ⟨fun h => absurd h (by decide), fun h => by subst h; omega⟩, rfl⟩
end Go.XG
