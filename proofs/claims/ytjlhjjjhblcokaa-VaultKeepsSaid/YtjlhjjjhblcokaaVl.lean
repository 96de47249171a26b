/-
  Walks of the seat's functions over the logic XG: each function, what it computes. Printed by a program out of wip/walks.py.
-/
import Derived.Test.YtjlhjjjhblcokaaI
import Derived.Test.YtjlhjjjhblcokaaXs
import Derived.Test.YtjlhjjjhblcokaaTo
import Derived.Test.YtjlhjjjhblcokaaTa
import Derived.Test.YtjlhjjjhblcokaaTb
import Derived.Test.YtjlhjjjhblcokaaKb
import Derived.Test.YtjlhjjjhblcokaaBa
import Derived.Test.YtjlhjjjhblcokaaBb
import Derived.Test.YtjlhjjjhblcokaaBc
import Derived.Test.YtjlhjjjhblcokaaKp
import Derived.Test.YtjlhjjjhblcokaaUa
import Derived.Test.YtjlhjjjhblcokaaKv
import Derived.Test.YtjlhjjjhblcokaaXw
import Derived.Test.YtjlhjjjhblcokaaVa
import Derived.Test.YtjlhjjjhblcokaaVb
import Derived.Test.YtjlhjjjhblcokaaVc
import Derived.Test.YtjlhjjjhblcokaaVd
import Derived.Test.YtjlhjjjhblcokaaBs
import Derived.Test.YtjlhjjjhblcokaaBd
import Derived.Test.YtjlhjjjhblcokaaVk
import Derived.Test.YtjlhjjjhblcokaaKz
namespace Go.XG
open Go.Proofs
set_option maxRecDepth 20000
set_option maxHeartbeats 4000000
theorem c38 {O : Outer} {H : Heap} {al : Option Addr} {cl : Nat} {L : List (List Int)} (hL : Rows H al 5 L) (hLl : L.length ≤ 1000) (i : Int) (hi : 0 ≤ i ∧ i ≤ 1048576) :
    FnC Try.prog 38 #[.slice al L.length cl, .int .i64 i] O H (fun v H' => ∃ r, v = .bool r ∧ ((∃ q, q < L.length ∧ (gr L q).getD 0 0 = 1048576 + i) → r = true) ∧ H = H') := by
  refine fn_enter (A := [.slice al L.length cl, .int .i64 i]) Try.func38 rfl rfl ?_
  have hX := Ext.refl H
  refine xc_seq ?_
  refine xc_region ?_
  refine xl_pure rfl rfl rfl (pv_assign (v := .bool _) rfl rfl) ?_
  refine xl_nil ?_
  refine xthen_normal ?_
  refine xc_seq ?_
  refine xc_seq ?_
  refine xc_region ?_
  refine xl_pure rfl rfl rfl (pv_assign (v := .int _ _) rfl rfl) ?_
  refine xl_nil ?_
  refine xthen_normal ?_
  refine xc_block ?_
  refine xc_loop (τ := Nat) (fun t => [(0, .slice al L.length cl), (1, .int .i64 i), (5, .int .i64 (t : Nat))]) (fun t H' => (t ≤ L.length) ∧ (∀ q, q < t → ¬ (gr L q).getD 0 0 = 1048576 + i) ∧ (H = H') ∧ (Ext H H')) (fun t H' => L.length - t) 0 ?_ ?_ ?_
  · exact ⟨rfl, rfl, rfl, trivial⟩
  · skip
    exact ⟨Nat.zero_le _, fun q hq => absurd hq (by omega), rfl, hX⟩
  · intro σ
    clear hX
    rintro j Hl2 ⟨hj, hno, heq, hX⟩
    replace hj : j ≤ L.length := hj
    replace hno : ∀ q, q < j → ¬ (gr L q).getD 0 0 = 1048576 + i := hno
    replace heq : H = Hl2 := heq
    replace hX : Ext H Hl2 := hX
    subst heq
    obtain ⟨bl, ofl, hLe⟩ := (hL.ext hX).at'
    show XC _ _ _ (upds σ [(0, .slice al L.length cl), (1, .int .i64 i), (5, .int .i64 (j : Nat))]) _
    refine xc_seq ?_
    refine xc_seq ?_
    refine xc_region ?_
    refine xl_pure rfl rfl rfl (pv_move (v := .int _ _) rfl rfl) ?_
    refine xl_pure rfl rfl rfl (pv_move (v := .slice _ _ _) rfl rfl) ?_
    refine xl_pure rfl rfl rfl (pv_len_l rfl rfl) ?_
    refine xl_dec rfl rfl rfl (pv_lss rfl rfl rfl) (fun h2_3 => ?_) (fun h2_3 => ?_)
    · skip
      refine xl_nil ?_
      refine xthen_normal ?_
      refine xc_cond_t rfl ?_
      refine xc_skip ?_
      refine xthen_normal ?_
      refine xc_seq ?_
      refine xc_block ?_
      refine xc_seq ?_
      refine xc_region ?_
      refine xl_pure rfl rfl rfl (pv_move (v := .slice _ _ _) rfl rfl) ?_
      refine xl_pure rfl rfl rfl (pv_move (v := .int _ _) rfl rfl) ?_
      refine xl_pure rfl rfl rfl (pv_indexAddr_l rfl (sl_eq (hLe (by omega)).1) rfl (by omega)) ?_
      refine xl_pure rfl rfl rfl (pv_fieldAddr rfl rfl) ?_
      refine xl_pure rfl rfl rfl (pv_fieldAddr rfl rfl) ?_
      refine xl_light rfl rfl rfl (lv_load (v := .int _ _) rfl rfl (by exact ld_num (j := 0) (hLe (by omega)).2 hL.1 (by omega) (by decide))) ?_
      refine xl_pure rfl rfl rfl (pv_move (v := .int _ _) rfl rfl) ?_
      refine xl_pure rfl rfl rfl (pv_add rfl rfl rfl (fit_i64 (by omega))) ?_
      refine xl_dec rfl rfl rfl (pv_eql rfl rfl rfl) (fun h4_8 => ?_) (fun h4_8 => ?_)
      · skip
        refine xl_nil ?_
        refine xthen_normal ?_
        refine xc_cond_t rfl ?_
        refine xc_seq ?_
        refine xc_region ?_
        refine xl_pure rfl rfl rfl (pv_assign (v := .bool _) rfl rfl) ?_
        refine xl_nil ?_
        refine xthen_normal ?_
        refine xc_ret ?_
        refine xblock_ret ?_
        refine xthen_ret ?_
        refine xthen_ret ?_
        refine xblock_ret ?_
        refine xthen_ret ?_
        refine fin_ret (res1 (v := .bool _) rfl rfl) ?_
        exact ⟨true, rfl, fun _ => rfl, rfl⟩
      · skip
        refine xl_nil ?_
        refine xthen_normal ?_
        refine xc_cond_f rfl ?_
        refine xc_skip ?_
        refine xblock_normal ?_
        refine xthen_normal ?_
        refine xc_region ?_
        refine xl_pure rfl rfl rfl (pv_move (v := .int _ _) rfl rfl) ?_
        refine xl_pure rfl rfl rfl (pv_add rfl rfl rfl (fit_i64 (by omega))) ?_
        refine xl_pure rfl rfl rfl (pv_assign (v := .int _ _) rfl rfl) ?_
        refine xl_nil ?_
        refine xthen_normal ?_
        exact ⟨j + 1, ⟨rfl, rfl, rfl, trivial⟩, ⟨by (try simp only); omega, all_next hno h4_8, rfl, hX⟩, by (try simp only); omega⟩
    · skip
      refine xl_nil ?_
      refine xthen_normal ?_
      refine xc_cond_f rfl ?_
      refine xc_exit ?_
      refine xthen_exit ?_
      refine xthen_exit ?_
      refine xblock_same ?_
      refine xthen_normal ?_
      refine xc_seq ?_
      refine xc_region ?_
      refine xl_pure rfl rfl rfl (pv_assign (v := .bool _) rfl rfl) ?_
      refine xl_nil ?_
      refine xthen_normal ?_
      refine xc_ret ?_
      refine fin_ret (res1 (v := .bool _) rfl rfl) ?_
      exact ⟨false, rfl, fun ⟨q, hq, e⟩ => absurd e (hno q (by omega)), rfl⟩

theorem c6 {O : Outer} {H : Heap} {al : Option Addr} {cl : Nat} {L : List (List Int)} (hL : Rows H al 5 L) {x0 x1 x2 x3 : Int} {ka kb : Option Addr} {ca cb : Nat} {s0 s1 : List Stack} (hS0 : Stks H ka s0) (hS1 : Stks H kb s1) :
    FnC Try.prog 6 #[.slice al L.length cl, .agg #[.int .i64 x0, .int .i64 x1, .int .i64 x2, .int .i64 x3], .agg #[.slice ka s0.length ca, .slice kb s1.length cb]] O H (fun v H' => v = .bool true ∧ Ext H H') := by
  refine fn_enter (A := [.slice al L.length cl, .agg #[.int .i64 x0, .int .i64 x1, .int .i64 x2, .int .i64 x3], .agg #[.slice ka s0.length ca, .slice kb s1.length cb]]) Try.func6 rfl rfl ?_
  have hX := Ext.refl H
  refine xc_seq ?_
  refine xc_region ?_
  refine xl_heavy rfl rfl rfl (hv_box rfl rfl) ?_
  rintro v0_0 H0_0 ⟨b0_0, rfl, hN0_0⟩
  have gb0_0 := hX.fresh hN0_0
  have hX := hX.trans hN0_0.ext
  have m0_0 := hN0_0.blk
  refine xl_heavy rfl rfl rfl (hv_box rfl rfl) ?_
  rintro v0_1 H0_1 ⟨b0_1, rfl, hN0_1⟩
  have gb0_1 := hX.fresh hN0_1
  have nm0_0_0_1 := m0_0.apart hN0_1
  have m0_0 := m0_0.ext hN0_1.ext
  have hX := hX.trans hN0_1.ext
  have m0_1 := hN0_1.blk
  refine xl_pure rfl rfl rfl (pv_assign (v := .bool _) rfl rfl) ?_
  refine xl_nil ?_
  refine xthen_normal ?_
  refine xc_seq ?_
  refine xc_seq ?_
  refine xc_region ?_
  refine xl_pure rfl rfl rfl (pv_move (v := .slice _ _ _) rfl rfl) ?_
  refine xl_pure rfl rfl rfl (pv_len_l rfl rfl) ?_
  refine xl_dec rfl rfl rfl (pv_gtr rfl rfl rfl) (fun h1_2 => ?_) (fun h1_2 => ?_)
  · skip
    refine xl_pure rfl rfl rfl (pv_move (v := .bool _) rfl rfl) ?_
    refine xl_skip rfl rfl rfl ?_
    refine xl_skip rfl rfl rfl ?_
    refine xl_skip rfl rfl rfl ?_
    refine xl_skip rfl rfl rfl ?_
    refine xl_pure rfl rfl rfl (pv_pick_t (v := .bool _) rfl rfl rfl) ?_
    refine xl_pure rfl rfl rfl (pv_move (v := .bool _) rfl rfl) ?_
    refine xl_skip rfl rfl rfl ?_
    refine xl_skip rfl rfl rfl ?_
    refine xl_skip rfl rfl rfl ?_
    refine xl_skip rfl rfl rfl ?_
    refine xl_pure rfl rfl rfl (pv_pick_t (v := .bool _) rfl rfl rfl) ?_
    refine xl_nil ?_
    refine xthen_normal ?_
    refine xc_cond_t rfl ?_
    refine xc_seq ?_
    refine xc_region ?_
    refine xl_heavy rfl rfl rfl (hv_call (g := 11) rfl rfl (c11) rfl) ?_
    rintro v2_0 H2_0 ⟨rfl, hE2_0⟩
    have m0_0 := m0_0.ext hE2_0
    have m0_1 := m0_1.ext hE2_0
    have hX := hX.trans hE2_0
    refine xl_pure rfl rfl rfl (pv_assign (v := .bool _) rfl rfl) ?_
    refine xl_nil ?_
    refine xthen_normal ?_
    refine xc_ret ?_
    refine xthen_ret ?_
    refine fin_ret (res1 (v := .bool _) rfl rfl) ?_
    exact ⟨rfl, hX⟩
  · skip
    refine xl_pure rfl rfl rfl (pv_move (v := .bool _) rfl rfl) ?_
    refine xl_pure rfl rfl rfl (pv_indexAddr_a rfl rfl rfl (by omega)) ?_
    refine xl_light rfl rfl rfl (lv_load (v := .slice _ _ _) rfl rfl (ld_blk m0_1 rfl)) ?_
    refine xl_pure rfl rfl rfl (pv_len_l rfl rfl) ?_
    refine xl_dec rfl rfl rfl (pv_gtr rfl rfl rfl) (fun h1_7 => ?_) (fun h1_7 => ?_)
    · skip
      refine xl_pure rfl rfl rfl (pv_pick_f (v := .bool _) rfl rfl rfl) ?_
      refine xl_pure rfl rfl rfl (pv_move (v := .bool _) rfl rfl) ?_
      refine xl_skip rfl rfl rfl ?_
      refine xl_skip rfl rfl rfl ?_
      refine xl_skip rfl rfl rfl ?_
      refine xl_skip rfl rfl rfl ?_
      refine xl_pure rfl rfl rfl (pv_pick_t (v := .bool _) rfl rfl rfl) ?_
      refine xl_nil ?_
      refine xthen_normal ?_
      refine xc_cond_t rfl ?_
      refine xc_seq ?_
      refine xc_region ?_
      refine xl_heavy rfl rfl rfl (hv_call (g := 11) rfl rfl (c11) rfl) ?_
      rintro v2_0 H2_0 ⟨rfl, hE2_0⟩
      have m0_0 := m0_0.ext hE2_0
      have m0_1 := m0_1.ext hE2_0
      have hX := hX.trans hE2_0
      refine xl_pure rfl rfl rfl (pv_assign (v := .bool _) rfl rfl) ?_
      refine xl_nil ?_
      refine xthen_normal ?_
      refine xc_ret ?_
      refine xthen_ret ?_
      refine fin_ret (res1 (v := .bool _) rfl rfl) ?_
      exact ⟨rfl, hX⟩
    · skip
      refine xl_pure rfl rfl rfl (pv_pick_f (v := .bool _) rfl rfl rfl) ?_
      refine xl_pure rfl rfl rfl (pv_move (v := .bool _) rfl rfl) ?_
      refine xl_pure rfl rfl rfl (pv_indexAddr_a rfl rfl rfl (by omega)) ?_
      refine xl_light rfl rfl rfl (lv_load (v := .slice _ _ _) rfl rfl (ld_blk m0_1 rfl)) ?_
      refine xl_pure rfl rfl rfl (pv_len_l rfl rfl) ?_
      refine xl_dec rfl rfl rfl (pv_gtr rfl rfl rfl) (fun h1_13 => ?_) (fun h1_13 => ?_)
      · skip
        refine xl_pure rfl rfl rfl (pv_pick_f (v := .bool _) rfl rfl rfl) ?_
        refine xl_nil ?_
        refine xthen_normal ?_
        refine xc_cond_t rfl ?_
        refine xc_seq ?_
        refine xc_region ?_
        refine xl_heavy rfl rfl rfl (hv_call (g := 11) rfl rfl (c11) rfl) ?_
        rintro v2_0 H2_0 ⟨rfl, hE2_0⟩
        have m0_0 := m0_0.ext hE2_0
        have m0_1 := m0_1.ext hE2_0
        have hX := hX.trans hE2_0
        refine xl_pure rfl rfl rfl (pv_assign (v := .bool _) rfl rfl) ?_
        refine xl_nil ?_
        refine xthen_normal ?_
        refine xc_ret ?_
        refine xthen_ret ?_
        refine fin_ret (res1 (v := .bool _) rfl rfl) ?_
        exact ⟨rfl, hX⟩
      · skip
        refine xl_pure rfl rfl rfl (pv_pick_f (v := .bool _) rfl rfl rfl) ?_
        refine xl_nil ?_
        refine xthen_normal ?_
        refine xc_cond_f rfl ?_
        refine xc_skip ?_
        refine xthen_normal ?_
        refine xc_seq ?_
        have hX0 := hX
        have hs0 : s0.length ≤ 12 := by omega
        have hs1 : s1.length ≤ 12 := by omega
        refine xc_region ?_
        refine xl_pure rfl rfl rfl (pv_move (v := .slice _ _ _) rfl rfl) ?_
        refine xl_heavy rfl rfl rfl (hv_call (g := 12) rfl rfl (c12 (hL.ext hX) (by omega)) rfl) ?_
        rintro v3_1 H3_1 ⟨e3_1, hl3_1, hv3_1, hE3_1⟩
        have m0_0 := m0_0.ext hE3_1
        have m0_1 := m0_1.ext hE3_1
        have hX := hX.trans hE3_1
        rcases hv3_1 with ⟨rfl, ⟨bp, a, c, T, rfl, gbp, mp, hR, hc, hna, ht⟩, hgo⟩ | ⟨hne, rfl⟩
        · skip
          have gbp : Fresh H bp := ⟨Nat.le_trans hX0.size gbp.le⟩
          have hyl := (lds_half hL.1 (Nat.le_refl _) (ldr_ok hl3_1).1).len
          have hyt : (ldB L L.length).length < 100000 := by omega
          refine xl_pure rfl rfl rfl (pv_move (v := .tuple _) rfl rfl) ?_
          refine xl_pure rfl rfl rfl (pv_extract (v := .pointer _) rfl rfl rfl) ?_
          refine xl_pure rfl rfl rfl (pv_extract (v := .int _ _) rfl rfl rfl) ?_
          refine xl_pure rfl rfl rfl (pv_assign (v := .pointer _) rfl rfl) ?_
          refine xl_pure rfl rfl rfl (pv_assign (v := .int _ _) rfl rfl) ?_
          refine xl_nil ?_
          refine xthen_normal ?_
          refine xc_seq ?_
          refine xc_seq ?_
          refine xc_region ?_
          refine xl_pure rfl rfl rfl (pv_move (v := .int _ _) rfl rfl) ?_
          refine xl_ndec rfl rfl rfl (pv_neq rfl rfl rfl) (fun h4_1 => ?_) (fun h4_1 => ?_)
          · skip
            refine xl_nil ?_
            refine xthen_normal ?_
            refine xc_cond_f rfl ?_
            refine xc_skip ?_
            refine xthen_normal ?_
            refine xc_seq ?_
            refine xc_seq ?_
            refine xc_region ?_
            refine xl_pure rfl rfl rfl (pv_move (v := .pointer _) rfl rfl) ?_
            refine xl_pure rfl rfl rfl (pv_eql_pn rfl rfl rfl) ?_
            refine xl_nil ?_
            refine xthen_normal ?_
            refine xc_cond_f rfl ?_
            refine xc_skip ?_
            refine xthen_normal ?_
            refine xc_seq ?_
            refine xc_region ?_
            refine xl_pure rfl rfl rfl (pv_fieldAddr rfl rfl) ?_
            refine xl_light rfl rfl rfl (lv_load (v := .int _ _) rfl rfl (ld_blk m0_0 rfl)) ?_
            refine xl_pure rfl rfl rfl (pv_and rfl rfl rfl rfl) ?_
            obtain ⟨am, ham⟩ : ∃ am, am = bits2 .and .i64 x0 524287 := ⟨_, rfl⟩
            have hmk := and_mask x0
            rw [← ham] at hmk
            rw [← ham]
            refine xl_pure rfl rfl rfl (pv_add rfl rfl rfl (fit_i64 (by omega))) ?_
            refine xl_pure rfl rfl rfl (pv_assign (v := .int _ _) rfl rfl) ?_
            refine xl_nil ?_
            refine xthen_normal ?_
            refine xc_seq ?_
            obtain ⟨id, hid⟩ : ∃ id, id = 1 + am := ⟨_, rfl⟩
            have hid1 : 1 ≤ id ∧ id ≤ 524288 := by omega
            rw [← hid]
            have hok : OKo 2 id := ⟨.inr rfl, by omega, by omega⟩
            have hok1 : OKo 1 id := ⟨.inl rfl, by omega, by omega⟩
            refine xc_region ?_
            refine xl_pure rfl rfl rfl (pv_move (v := .pointer _) rfl rfl) ?_
            refine xl_heavy rfl rfl rfl (hv_call (g := 24) rfl rfl (c24 mp hR hc hna (by omega)) rfl) ?_
            rintro v9_1 H9_1 ⟨a9_1, c9_1, rfl, hQ9_1, hE9_1⟩
            have m0_0 := m0_0.ext hE9_1
            have m0_1 := m0_1.ext hE9_1
            have mp := mp.ext hE9_1
            have hR := hR.ext hE9_1
            have hX := hX.trans hE9_1
            refine xl_pure rfl rfl rfl (pv_assign (v := .slice _ _ _) rfl rfl) ?_
            refine xl_nil ?_
            refine xthen_normal ?_
            refine xc_seq ?_
            refine xc_seq ?_
            refine xc_region ?_
            refine xl_pure rfl rfl rfl (pv_move (v := .pointer _) rfl rfl) ?_
            refine xl_pure rfl rfl rfl (pv_move (v := .int _ _) rfl rfl) ?_
            refine xl_pure rfl rfl rfl (pv_fieldAddr rfl rfl) ?_
            refine xl_light rfl rfl rfl (lv_load (v := .int _ _) rfl rfl (ld_blk m0_0 rfl)) ?_
            refine xl_heavy rfl rfl rfl (hv_call (g := 15) rfl rfl (c15 (l := (ldB L L.length)) mp hR hc hna (by omega) hgo ht 2 id x2) rfl) ?_
            rintro v10_4 H10_4 ⟨a10_4, c10_4, rfl, hH10_4, hE10_4⟩
            have m0_0 := m0_0.ext hE10_4
            have m0_1 := m0_1.ext hE10_4
            have mp := mp.ext hE10_4
            have hR := hR.ext hE10_4
            have hQ9_1 := hQ9_1.ext hE10_4
            have hX := hX.trans hE10_4
            refine xl_pure rfl rfl rfl (pv_len_l rfl rfl) ?_
            refine xl_dec rfl rfl rfl (pv_gtr rfl rfl rfl) (fun h10_6 => ?_) (fun h10_6 => ?_)
            · skip
              refine xl_nil ?_
              refine xthen_normal ?_
              refine xc_cond_t rfl ?_
              refine xc_seq ?_
              refine xc_region ?_
              refine xl_heavy rfl rfl rfl (hv_call (g := 11) rfl rfl (c11) rfl) ?_
              rintro v11_0 H11_0 ⟨rfl, hE11_0⟩
              have m0_0 := m0_0.ext hE11_0
              have m0_1 := m0_1.ext hE11_0
              have mp := mp.ext hE11_0
              have hR := hR.ext hE11_0
              have hQ9_1 := hQ9_1.ext hE11_0
              have hX := hX.trans hE11_0
              refine xl_pure rfl rfl rfl (pv_assign (v := .bool _) rfl rfl) ?_
              refine xl_nil ?_
              refine xthen_normal ?_
              refine xc_ret ?_
              refine xthen_ret ?_
              refine fin_ret (res1 (v := .bool _) rfl rfl) ?_
              exact ⟨rfl, hX⟩
            · skip
              refine xl_nil ?_
              refine xthen_normal ?_
              refine xc_cond_f rfl ?_
              refine xc_skip ?_
              refine xthen_normal ?_
              refine xc_seq ?_
              refine xc_seq ?_
              have hem : hdS (ldB L L.length) 2 id x2 = [] := List.length_eq_zero_iff.1 (by omega)
              refine xc_region ?_
              refine xl_pure rfl rfl rfl (pv_assign (v := .int _ _) rfl rfl) ?_
              refine xl_nil ?_
              refine xthen_normal ?_
              refine xc_block ?_
              refine xc_loop (τ := Nat × Option Addr × Nat × List Int) (fun t => [(0, .slice al L.length cl), (4, .pointer (some ⟨b0_0, 0, none⟩)), (5, .pointer (some ⟨b0_1, 0, none⟩)), (7, .pointer (some ⟨bp, 0, none⟩)), (9, .int .i64 id), (10, .slice a9_1 (ldB L L.length).length c9_1), (11, .int .i64 (t.1 : Nat))]) (fun t H' => (t.1 ≤ 2) ∧ (∀ q, q < t.1 → lkE (kX (ldB L L.length) x0 x1 x2 id s0 s1 q) x0 x1 x2 2 id (kP s0 s1 q) = 0) ∧ (Blk H' bp (.slice t.2.1 ((kX (ldB L L.length) x0 x1 x2 id s0 s1 t.1)).length t.2.2.1 :: ints (t.2.2.2)) 87) ∧ (RowsT H' 138 5 t.2.1 (kX (ldB L L.length) x0 x1 x2 id s0 s1 t.1)) ∧ ((kX (ldB L L.length) x0 x1 x2 id s0 s1 t.1).length ≤ t.2.2.1) ∧ (t.2.1 = none → t.2.2.1 = 0) ∧ (Tots (kX (ldB L L.length) x0 x1 x2 id s0 s1 t.1) t.2.2.2) ∧ (RowsT H' 99 5 a9_1 (ldB L L.length)) ∧ (Blk H' b0_0 [.int .i64 x0, .int .i64 x1, .int .i64 x2, .int .i64 x3] 37) ∧ (Blk H' b0_1 [.slice ka s0.length ca, .slice kb s1.length cb] 76) ∧ (Ext H H')) (fun t H' => 2 - t.1) (0, a, c, T) ?_ ?_ ?_
              · exact ⟨rfl, rfl, rfl, rfl, rfl, rfl, rfl, trivial⟩
              · skip
                exact ⟨Nat.zero_le _, fun q hq => absurd hq (by omega), mp, hR, hc, hna, ht, hQ9_1, m0_0, m0_1, hX⟩
              · intro σ
                clear hX m0_0 m0_1 mp hR hQ9_1
                rintro ⟨j, a1, c1, T1⟩ Hl13 ⟨hj, hlk, mp, hR, hc1, hna1, hty, hQ9_1, m0_0, m0_1, hX⟩
                replace hj : j ≤ 2 := hj
                replace hlk : ∀ q, q < j → lkE (kX (ldB L L.length) x0 x1 x2 id s0 s1 q) x0 x1 x2 2 id (kP s0 s1 q) = 0 := hlk
                replace mp : Blk Hl13 bp (.slice a1 ((kX (ldB L L.length) x0 x1 x2 id s0 s1 j)).length c1 :: ints (T1)) 87 := mp
                replace hR : RowsT Hl13 138 5 a1 (kX (ldB L L.length) x0 x1 x2 id s0 s1 j) := hR
                replace hc1 : (kX (ldB L L.length) x0 x1 x2 id s0 s1 j).length ≤ c1 := hc1
                replace hna1 : a1 = none → c1 = 0 := hna1
                replace hty : Tots (kX (ldB L L.length) x0 x1 x2 id s0 s1 j) T1 := hty
                replace hQ9_1 : RowsT Hl13 99 5 a9_1 (ldB L L.length) := hQ9_1
                replace m0_0 : Blk Hl13 b0_0 [.int .i64 x0, .int .i64 x1, .int .i64 x2, .int .i64 x3] 37 := m0_0
                replace m0_1 : Blk Hl13 b0_1 [.slice ka s0.length ca, .slice kb s1.length cb] 76 := m0_1
                replace hX : Ext H Hl13 := hX
                obtain ⟨hgj, hlj⟩ := goo_kX (x0 := x0) (x1 := x1) (x2 := x2) (i := id) (s0 := s0) (s1 := s1) hgo j
                obtain ⟨hgn, hln⟩ := goo_lk (f0 := x0) (f1 := x1) (f2 := x2) (w := 2) (i := id) (s := (kP s0 s1 j)) hgj
                show XC _ _ _ (upds σ [(0, .slice al L.length cl), (4, .pointer (some ⟨b0_0, 0, none⟩)), (5, .pointer (some ⟨b0_1, 0, none⟩)), (7, .pointer (some ⟨bp, 0, none⟩)), (9, .int .i64 id), (10, .slice a9_1 (ldB L L.length).length c9_1), (11, .int .i64 (j : Nat))]) _
                refine xc_seq ?_
                refine xc_seq ?_
                refine xc_region ?_
                refine xl_pure rfl rfl rfl (pv_move (v := .int _ _) rfl rfl) ?_
                refine xl_dec rfl rfl rfl (pv_lss rfl rfl rfl) (fun h13_1 => ?_) (fun h13_1 => ?_)
                · skip
                  refine xl_nil ?_
                  refine xthen_normal ?_
                  refine xc_cond_t rfl ?_
                  refine xc_skip ?_
                  refine xthen_normal ?_
                  refine xc_seq ?_
                  refine xc_block ?_
                  refine xc_seq ?_
                  refine xp_start rfl (by repeat (first | with_reducible exact np_fin | with_reducible exact np_ret | with_reducible refine np_then ?_ | with_reducible refine np_block ?_)) (by kernel_rfl) ?_
                  refine xp_pure (i := 0) rfl (by kernel_rfl) (by kernel_rfl) rfl rfl rfl (pv_move (v := .pointer _) rfl rfl) ?_
                  refine xp_light (i := 1) rfl (by kernel_rfl) (by kernel_rfl) rfl rfl rfl (lv_load (v := .agg _) rfl rfl (ld_blk_a m0_0 rfl rfl)) ?_
                  refine xp_pure (i := 2) rfl (by kernel_rfl) (by kernel_rfl) rfl rfl rfl (pv_move (v := .int _ _) rfl rfl) ?_
                  refine xp_pure (i := 3) rfl (by kernel_rfl) (by kernel_rfl) rfl rfl rfl (pv_move (v := .int _ _) rfl rfl) ?_
                  refine xp_pure (i := 4) rfl (by kernel_rfl) (by kernel_rfl) rfl rfl rfl (pv_indexAddr_a rfl rfl rfl (by omega)) ?_
                  refine xp_light (i := 5) rfl (by kernel_rfl) (by kernel_rfl) rfl rfl rfl (lv_load (v := .slice _ _ _) rfl rfl (by exact ld_arr m0_1 (by omega))) ?_
                  refine xp_heavy (i := 6) (by kernel_rfl) ?_
                  refine xph_val rfl rfl rfl rfl (hv_call (g := 17) rfl rfl (c17 (l := (kX (ldB L L.length) x0 x1 x2 id s0 s1 j)) mp hR hc1 hna1 (by omega) hgj hty (stksO_new (kP_stks hS0 hS1) hX gbp.le) (by have := kP_len (j := j) hs0 hs1; omega) x0 x1 x2 x3 2 id) rfl) (pd (by kernel_rfl) (pd (by kernel_rfl) pn)) ?_
                  rintro v15_6 H15_6 ⟨a15_6, c15_6, T15_6, rfl, hB15_6, hT15_6, hR15_6, hc15_6, hna15_6, ht15_6⟩
                  have m0_0 := m0_0.off hB15_6 (by first | exact nm0_0_mp | exact ⟨m0_0.ne mp rfl⟩ | exact ⟨m0_0.ne mp (by assumption)⟩ | exact ⟨Ne.symm (mp.ne m0_0 (by assumption))⟩)
                  have m0_1 := m0_1.off hB15_6 (by first | exact nm0_1_mp | exact ⟨m0_1.ne mp rfl⟩ | exact ⟨m0_1.ne mp (by assumption)⟩ | exact ⟨Ne.symm (mp.ne m0_1 (by assumption))⟩)
                  have hR := hR.offT mp hB15_6 (by first | rfl | assumption)
                  have hQ9_1 := hQ9_1.offT mp hB15_6 (by first | rfl | assumption)
                  have hX := hX.upd hB15_6 gbp
                  have mp := hT15_6
                  refine ⟨okn, ?_⟩
                  refine xp_ndec (i := 7) rfl (by kernel_rfl) (by kernel_rfl) rfl rfl rfl (pv_neq rfl rfl rfl) (fun h15_7 => ?_) (fun h15_7 => ?_)
                  · skip
                    refine xp_done (by kernel_rfl) ?_
                    refine xthen_normal ?_
                    refine xc_cond_f rfl ?_
                    refine xc_skip ?_
                    refine xblock_normal ?_
                    refine xthen_normal ?_
                    refine xc_region ?_
                    refine xl_pure rfl rfl rfl (pv_move (v := .int _ _) rfl rfl) ?_
                    refine xl_pure rfl rfl rfl (pv_add rfl rfl rfl (fit_i64 (by omega))) ?_
                    refine xl_pure rfl rfl rfl (pv_assign (v := .int _ _) rfl rfl) ?_
                    refine xl_nil ?_
                    refine xthen_normal ?_
                    exact ⟨(j + 1, _, _, _), ⟨rfl, rfl, rfl, rfl, rfl, rfl, rfl, trivial⟩, ⟨by (try simp only); omega, all_next hlk h15_7, mp, hR15_6, hc15_6, hna15_6, ht15_6, hQ9_1, m0_0, m0_1, hX⟩, by (try simp only); omega⟩
                  · skip
                    refine xp_done (by kernel_rfl) ?_
                    refine xthen_normal ?_
                    refine xc_cond_t rfl ?_
                    refine xc_seq ?_
                    refine xc_region ?_
                    refine xl_pure rfl rfl rfl (pv_move (v := .int _ _) rfl rfl) ?_
                    refine xl_dec rfl rfl rfl (pv_gtr rfl rfl rfl) (fun h16_1 => ?_) (fun h16_1 => ?_)
                    · skip
                      refine xl_pure rfl rfl rfl (pv_move (v := .bool _) rfl rfl) ?_
                      refine xl_skip rfl rfl rfl ?_
                      refine xl_skip rfl rfl rfl ?_
                      refine xl_skip rfl rfl rfl ?_
                      refine xl_skip rfl rfl rfl ?_
                      refine xl_pure rfl rfl rfl (pv_pick_t (v := .bool _) rfl rfl rfl) ?_
                      refine xl_pure rfl rfl rfl (pv_move (v := .bool _) rfl rfl) ?_
                      refine xl_heavy rfl rfl rfl (hv_call (g := 11) rfl rfl (c11) rfl) ?_
                      rintro v16_9 H16_9 ⟨rfl, hE16_9⟩
                      have m0_0 := m0_0.ext hE16_9
                      have m0_1 := m0_1.ext hE16_9
                      have mp := mp.ext hE16_9
                      have hR := hR.ext hE16_9
                      have hQ9_1 := hQ9_1.ext hE16_9
                      have hR15_6 := hR15_6.ext hE16_9
                      have hX := hX.trans hE16_9
                      refine xl_pure rfl rfl rfl (pv_pick_t (v := .bool _) rfl rfl rfl) ?_
                      refine xl_pure rfl rfl rfl (pv_assign (v := .bool _) rfl rfl) ?_
                      refine xl_nil ?_
                      refine xthen_normal ?_
                      refine xc_ret ?_
                      refine xblock_ret ?_
                      refine xthen_ret ?_
                      refine xthen_ret ?_
                      refine xblock_ret ?_
                      refine xthen_ret ?_
                      refine fin_ret (res1 (v := .bool _) rfl rfl) ?_
                      exact ⟨rfl, hX⟩
                    · skip
                      refine xl_pure rfl rfl rfl (pv_move (v := .bool _) rfl rfl) ?_
                      refine xl_pure rfl rfl rfl (pv_move (v := .pointer _) rfl rfl) ?_
                      refine xl_heavy rfl rfl rfl (hv_call (g := 24) rfl rfl (c24 mp hR15_6 hc15_6 hna15_6 (by omega)) rfl) ?_
                      rintro v16_4 H16_4 ⟨a16_4, c16_4, rfl, hQ16_4, hE16_4⟩
                      have m0_0 := m0_0.ext hE16_4
                      have m0_1 := m0_1.ext hE16_4
                      have mp := mp.ext hE16_4
                      have hR := hR.ext hE16_4
                      have hQ9_1 := hQ9_1.ext hE16_4
                      have hR15_6 := hR15_6.ext hE16_4
                      have hX := hX.trans hE16_4
                      refine xl_pure rfl rfl rfl (pv_move (v := .slice _ _ _) rfl rfl) ?_
                      refine xl_heavy rfl rfl rfl (hv_call (g := 23) rfl rfl (c23 (lkX (kX (ldB L L.length) x0 x1 x2 id s0 s1 j) x0 x1 x2 2 id (kP s0 s1 j)) (ldB L L.length) _ _ _ _ hQ16_4.rows hQ9_1.rows (by omega)) rfl) ?_
                      rintro v16_6 H16_6 ⟨r16_6, rfl, hb16_6, rfl⟩
                      obtain rfl : r16_6 = true := hb16_6.2 (by rw [lk_stay h15_7, show j = 0 by omega]; rfl)
                      refine xl_pure rfl rfl rfl (pv_pick_f (v := .bool _) rfl rfl rfl) ?_
                      refine xl_pure rfl rfl rfl (pv_move (v := .bool _) rfl rfl) ?_
                      refine xl_heavy rfl rfl rfl (hv_call (g := 11) rfl rfl (c11) rfl) ?_
                      rintro v16_9 H16_9 ⟨rfl, hE16_9⟩
                      have m0_0 := m0_0.ext hE16_9
                      have m0_1 := m0_1.ext hE16_9
                      have mp := mp.ext hE16_9
                      have hR := hR.ext hE16_9
                      have hQ9_1 := hQ9_1.ext hE16_9
                      have hR15_6 := hR15_6.ext hE16_9
                      have hQ16_4 := hQ16_4.ext hE16_9
                      have hX := hX.trans hE16_9
                      refine xl_pure rfl rfl rfl (pv_pick_t (v := .bool _) rfl rfl rfl) ?_
                      refine xl_pure rfl rfl rfl (pv_assign (v := .bool _) rfl rfl) ?_
                      refine xl_nil ?_
                      refine xthen_normal ?_
                      refine xc_ret ?_
                      refine xblock_ret ?_
                      refine xthen_ret ?_
                      refine xthen_ret ?_
                      refine xblock_ret ?_
                      refine xthen_ret ?_
                      refine fin_ret (res1 (v := .bool _) rfl rfl) ?_
                      exact ⟨rfl, hX⟩
                · skip
                  refine xl_nil ?_
                  refine xthen_normal ?_
                  refine xc_cond_f rfl ?_
                  refine xc_exit ?_
                  refine xthen_exit ?_
                  refine xthen_exit ?_
                  refine xblock_same ?_
                  refine xthen_normal ?_
                  refine xc_seq ?_
                  obtain rfl : j = 2 := by omega
                  have h2t := two_locks hgo hok hem hlk
                  have hg2 := h2t.g2
                  have hbk := h2t.back hok rfl
                  have hk2 := (goo_kX (x0 := x0) (x1 := x1) (x2 := x2) (i := id) (s0 := s0) (s1 := s1) hgo 2).2
                  refine xc_region ?_
                  refine xl_pure rfl rfl rfl (pv_indexAddr_a rfl rfl rfl (by omega)) ?_
                  refine xl_light rfl rfl rfl (lv_load (v := .slice _ _ _) rfl rfl (ld_blk m0_1 rfl)) ?_
                  refine xl_pure rfl rfl rfl (pv_indexAddr_a rfl rfl rfl (by omega)) ?_
                  refine xl_light rfl rfl rfl (lv_load (v := .slice _ _ _) rfl rfl (ld_blk m0_1 rfl)) ?_
                  refine xl_heavy rfl rfl rfl (hv_call (g := 37) rfl rfl (c37 s0 s1 (hS0.ext hX) (hS1.ext hX) (by omega) (by omega) h2t.nat.1 h2t.nat.2 (fun t => h2t.nice)) rfl) ?_
                  rintro v17_4 H17_4 ⟨out, a17_4, c17_4, rfl, hol, hou, hot, hSo, hE17_4⟩
                  have m0_0 := m0_0.ext hE17_4
                  have m0_1 := m0_1.ext hE17_4
                  have mp := mp.ext hE17_4
                  have hR := hR.ext hE17_4
                  have hQ9_1 := hQ9_1.ext hE17_4
                  have hX := hX.trans hE17_4
                  refine xl_pure rfl rfl rfl (pv_move (v := .tuple _) rfl rfl) ?_
                  refine xl_pure rfl rfl rfl (pv_extract (v := .slice _ _ _) rfl rfl rfl) ?_
                  refine xl_pure rfl rfl rfl (pv_extract (v := .int _ _) rfl rfl rfl) ?_
                  refine xl_pure rfl rfl rfl (pv_assign (v := .slice _ _ _) rfl rfl) ?_
                  refine xl_pure rfl rfl rfl (pv_assign (v := .int _ _) rfl rfl) ?_
                  refine xl_nil ?_
                  refine xthen_normal ?_
                  refine xc_seq ?_
                  refine xc_seq ?_
                  refine xc_region ?_
                  refine xl_pure rfl rfl rfl (pv_move (v := .int _ _) rfl rfl) ?_
                  refine xl_ndec rfl rfl rfl (pv_neq rfl rfl rfl) (fun h18_1 => ?_) (fun h18_1 => ?_)
                  · skip
                    refine xl_pure rfl rfl rfl (pv_move (v := .bool _) rfl rfl) ?_
                    refine xl_pure rfl rfl rfl (pv_move (v := .pointer _) rfl rfl) ?_
                    refine xl_pure rfl rfl rfl (pv_move (v := .int _ _) rfl rfl) ?_
                    refine xl_pure rfl rfl rfl (pv_fieldAddr rfl rfl) ?_
                    refine xl_light rfl rfl rfl (lv_load (v := .int _ _) rfl rfl (ld_blk m0_0 rfl)) ?_
                    refine xl_heavy rfl rfl rfl (hv_call (g := 15) rfl rfl (c15 (l := (kX (ldB L L.length) x0 x1 x2 id s0 s1 2)) mp hR hc1 hna1 (by omega) hg2 hty 2 id x2) rfl) ?_
                    rintro v18_7 H18_7 ⟨a18_7, c18_7, rfl, hH18_7, hE18_7⟩
                    have m0_0 := m0_0.ext hE18_7
                    have m0_1 := m0_1.ext hE18_7
                    have mp := mp.ext hE18_7
                    have hR := hR.ext hE18_7
                    have hQ9_1 := hQ9_1.ext hE18_7
                    have hSo := hSo.ext hE18_7
                    have hX := hX.trans hE18_7
                    refine xl_pure rfl rfl rfl (pv_move (v := .slice _ _ _) rfl rfl) ?_
                    refine xl_heavy rfl rfl rfl (hv_call (g := 14) rfl rfl (gSame _ _ _ _ _ _ hH18_7.st hSo (by have := hd_len (l := (kX (ldB L L.length) x0 x1 x2 id s0 s1 2)) (w := 2) (i := id) (p := x2); omega)) rfl) ?_
                    rintro v18_9 H18_9 ⟨r18_9, rfl, hb18_9, rfl⟩
                    obtain rfl : r18_9 = true := hb18_9.2 (by rw [hd_go hok]; exact h2t.held hou hot)
                    refine xl_pure rfl rfl rfl (pv_not rfl rfl) ?_
                    refine xl_pure rfl rfl rfl (pv_pick_f (v := .bool _) rfl rfl rfl) ?_
                    refine xl_pure rfl rfl rfl (pv_move (v := .bool _) rfl rfl) ?_
                    refine xl_pure rfl rfl rfl (pv_move (v := .pointer _) rfl rfl) ?_
                    refine xl_pure rfl rfl rfl (pv_move (v := .int _ _) rfl rfl) ?_
                    refine xl_pure rfl rfl rfl (pv_fieldAddr rfl rfl) ?_
                    refine xl_light rfl rfl rfl (lv_load (v := .int _ _) rfl rfl (ld_blk m0_0 rfl)) ?_
                    refine xl_heavy rfl rfl rfl (hv_call (g := 15) rfl rfl (c15 (l := (kX (ldB L L.length) x0 x1 x2 id s0 s1 2)) mp hR hc1 hna1 (by omega) hg2 hty 1 id x2) rfl) ?_
                    rintro v18_17 H18_17 ⟨a18_17, c18_17, rfl, hH18_17, hE18_17⟩
                    have m0_0 := m0_0.ext hE18_17
                    have m0_1 := m0_1.ext hE18_17
                    have mp := mp.ext hE18_17
                    have hR := hR.ext hE18_17
                    have hQ9_1 := hQ9_1.ext hE18_17
                    have hX := hX.trans hE18_17
                    refine xl_pure rfl rfl rfl (pv_len_l rfl rfl) ?_
                    refine xl_dec rfl rfl rfl (pv_gtr rfl rfl rfl) (fun h18_19 => ?_) (fun h18_19 => ?_)
                    · skip
                      refine xl_pure rfl rfl rfl (pv_move (v := .bool _) rfl rfl) ?_
                      refine xl_pure rfl rfl rfl (pv_move (v := .slice _ _ _) rfl rfl) ?_
                      refine xl_pure rfl rfl rfl (pv_move (v := .int _ _) rfl rfl) ?_
                      refine xl_heavy rfl rfl rfl (hv_call (g := 38) rfl rfl (c38 (hL.ext hX) (by omega) id (by omega)) rfl) ?_
                      rintro v18_23 H18_23 ⟨r18_23, rfl, hr18_23, rfl⟩
                      obtain rfl : r18_23 = true := hr18_23 (by obtain ⟨r, hr, e⟩ := h2t.job (j := owN 1 id) (by unfold owN; omega) (by rw [hd_go hok1] at h18_19; omega); obtain ⟨q, hq, e2⟩ := ldB_mem hr; exact ⟨q, hq, by rw [e2, e]; unfold owN; omega⟩)
                      refine xl_pure rfl rfl rfl (pv_not rfl rfl) ?_
                      refine xl_pure rfl rfl rfl (pv_pick_t (v := .bool _) rfl rfl rfl) ?_
                      refine xl_pure rfl rfl rfl (pv_pick_f (v := .bool _) rfl rfl rfl) ?_
                      refine xl_nil ?_
                      refine xthen_normal ?_
                      refine xc_cond_f rfl ?_
                      refine xc_skip ?_
                      refine xthen_normal ?_
                      refine xc_seq ?_
                      refine xc_region ?_
                      refine xl_pure rfl rfl rfl (pv_move (v := .pointer _) rfl rfl) ?_
                      refine xl_pure rfl rfl rfl (pv_move (v := .int _ _) rfl rfl) ?_
                      refine xl_pure rfl rfl rfl (pv_fieldAddr rfl rfl) ?_
                      refine xl_light rfl rfl rfl (lv_load (v := .int _ _) rfl rfl (ld_blk m0_0 rfl)) ?_
                      refine xl_light rfl rfl rfl (lv_load (v := .agg _) rfl rfl (ld_blk_a m0_0 rfl rfl)) ?_
                      refine xl_heavy rfl rfl rfl (hv_call (g := 19) rfl rfl (c19 (l := (kX (ldB L L.length) x0 x1 x2 id s0 s1 2)) mp hR hc1 hna1 (by omega) hg2 hty 2 id x2 x0 x1 x2 x3) rfl) ?_
                      rintro v20_5 H20_5 ⟨a20_5, c20_5, T20_5, rfl, hB20_5, hT20_5, hR20_5, hc20_5, hna20_5, ht20_5⟩
                      have m0_0 := m0_0.off hB20_5 (by first | exact nm0_0_mp | exact ⟨m0_0.ne mp rfl⟩ | exact ⟨m0_0.ne mp (by assumption)⟩ | exact ⟨Ne.symm (mp.ne m0_0 (by assumption))⟩)
                      have m0_1 := m0_1.off hB20_5 (by first | exact nm0_1_mp | exact ⟨m0_1.ne mp rfl⟩ | exact ⟨m0_1.ne mp (by assumption)⟩ | exact ⟨Ne.symm (mp.ne m0_1 (by assumption))⟩)
                      have hR := hR.offT mp hB20_5 (by first | rfl | assumption)
                      have hQ9_1 := hQ9_1.offT mp hB20_5 (by first | rfl | assumption)
                      have hX := hX.upd hB20_5 gbp
                      have mp := hT20_5
                      refine xl_dec rfl rfl rfl (pv_eql rfl rfl rfl) (fun h20_6 => ?_) (fun h20_6 => ?_)
                      · skip
                        refine xl_pure rfl rfl rfl (pv_move (v := .bool _) rfl rfl) ?_
                        refine xl_pure rfl rfl rfl (pv_move (v := .pointer _) rfl rfl) ?_
                        refine xl_heavy rfl rfl rfl (hv_call (g := 24) rfl rfl (c24 mp hR20_5 hc20_5 hna20_5 (by have := (goo_re64 (w := 2) (i := id) (p := x2) (t0 := x0) (t1 := x1) (t2 := x2) hg2).2; omega)) rfl) ?_
                        rintro v20_9 H20_9 ⟨a20_9, c20_9, rfl, hQ20_9, hE20_9⟩
                        have m0_0 := m0_0.ext hE20_9
                        have m0_1 := m0_1.ext hE20_9
                        have mp := mp.ext hE20_9
                        have hR := hR.ext hE20_9
                        have hQ9_1 := hQ9_1.ext hE20_9
                        have hR20_5 := hR20_5.ext hE20_9
                        have hX := hX.trans hE20_9
                        refine xl_pure rfl rfl rfl (pv_move (v := .slice _ _ _) rfl rfl) ?_
                        refine xl_heavy rfl rfl rfl (hv_call (g := 23) rfl rfl (c23 (reX (kX (ldB L L.length) x0 x1 x2 id s0 s1 2) 2 id x2 x0 x1 x2) (ldB L L.length) _ _ _ _ hQ20_9.rows hQ9_1.rows (by have := (goo_re64 (w := 2) (i := id) (p := x2) (t0 := x0) (t1 := x1) (t2 := x2) hg2).2; omega)) rfl) ?_
                        rintro v20_11 H20_11 ⟨r20_11, rfl, hb20_11, rfl⟩
                        obtain rfl : r20_11 = true := hb20_11.2 hbk.2
                        refine xl_pure rfl rfl rfl (pv_pick_t (v := .bool _) rfl rfl rfl) ?_
                        refine xl_pure rfl rfl rfl (pv_move (v := .bool _) rfl rfl) ?_
                        refine xl_heavy rfl rfl rfl (hv_call (g := 11) rfl rfl (c11) rfl) ?_
                        rintro v20_14 H20_14 ⟨rfl, hE20_14⟩
                        have m0_0 := m0_0.ext hE20_14
                        have m0_1 := m0_1.ext hE20_14
                        have mp := mp.ext hE20_14
                        have hR := hR.ext hE20_14
                        have hQ9_1 := hQ9_1.ext hE20_14
                        have hR20_5 := hR20_5.ext hE20_14
                        have hQ20_9 := hQ20_9.ext hE20_14
                        have hX := hX.trans hE20_14
                        refine xl_pure rfl rfl rfl (pv_pick_t (v := .bool _) rfl rfl rfl) ?_
                        refine xl_pure rfl rfl rfl (pv_assign (v := .bool _) rfl rfl) ?_
                        refine xl_nil ?_
                        refine xthen_normal ?_
                        refine xc_ret ?_
                        refine fin_ret (res1 (v := .bool _) rfl rfl) ?_
                        exact ⟨rfl, hX⟩
                      · exact absurd hbk.1 h20_6
                    · skip
                      refine xl_pure rfl rfl rfl (pv_move (v := .bool _) rfl rfl) ?_
                      refine xl_skip rfl rfl rfl ?_
                      refine xl_skip rfl rfl rfl ?_
                      refine xl_skip rfl rfl rfl ?_
                      refine xl_skip rfl rfl rfl ?_
                      refine xl_pure rfl rfl rfl (pv_pick_f (v := .bool _) rfl rfl rfl) ?_
                      refine xl_pure rfl rfl rfl (pv_pick_f (v := .bool _) rfl rfl rfl) ?_
                      refine xl_nil ?_
                      refine xthen_normal ?_
                      refine xc_cond_f rfl ?_
                      refine xc_skip ?_
                      refine xthen_normal ?_
                      refine xc_seq ?_
                      refine xc_region ?_
                      refine xl_pure rfl rfl rfl (pv_move (v := .pointer _) rfl rfl) ?_
                      refine xl_pure rfl rfl rfl (pv_move (v := .int _ _) rfl rfl) ?_
                      refine xl_pure rfl rfl rfl (pv_fieldAddr rfl rfl) ?_
                      refine xl_light rfl rfl rfl (lv_load (v := .int _ _) rfl rfl (ld_blk m0_0 rfl)) ?_
                      refine xl_light rfl rfl rfl (lv_load (v := .agg _) rfl rfl (ld_blk_a m0_0 rfl rfl)) ?_
                      refine xl_heavy rfl rfl rfl (hv_call (g := 19) rfl rfl (c19 (l := (kX (ldB L L.length) x0 x1 x2 id s0 s1 2)) mp hR hc1 hna1 (by omega) hg2 hty 2 id x2 x0 x1 x2 x3) rfl) ?_
                      rintro v20_5 H20_5 ⟨a20_5, c20_5, T20_5, rfl, hB20_5, hT20_5, hR20_5, hc20_5, hna20_5, ht20_5⟩
                      have m0_0 := m0_0.off hB20_5 (by first | exact nm0_0_mp | exact ⟨m0_0.ne mp rfl⟩ | exact ⟨m0_0.ne mp (by assumption)⟩ | exact ⟨Ne.symm (mp.ne m0_0 (by assumption))⟩)
                      have m0_1 := m0_1.off hB20_5 (by first | exact nm0_1_mp | exact ⟨m0_1.ne mp rfl⟩ | exact ⟨m0_1.ne mp (by assumption)⟩ | exact ⟨Ne.symm (mp.ne m0_1 (by assumption))⟩)
                      have hR := hR.offT mp hB20_5 (by first | rfl | assumption)
                      have hQ9_1 := hQ9_1.offT mp hB20_5 (by first | rfl | assumption)
                      have hX := hX.upd hB20_5 gbp
                      have mp := hT20_5
                      refine xl_dec rfl rfl rfl (pv_eql rfl rfl rfl) (fun h20_6 => ?_) (fun h20_6 => ?_)
                      · skip
                        refine xl_pure rfl rfl rfl (pv_move (v := .bool _) rfl rfl) ?_
                        refine xl_pure rfl rfl rfl (pv_move (v := .pointer _) rfl rfl) ?_
                        refine xl_heavy rfl rfl rfl (hv_call (g := 24) rfl rfl (c24 mp hR20_5 hc20_5 hna20_5 (by have := (goo_re64 (w := 2) (i := id) (p := x2) (t0 := x0) (t1 := x1) (t2 := x2) hg2).2; omega)) rfl) ?_
                        rintro v20_9 H20_9 ⟨a20_9, c20_9, rfl, hQ20_9, hE20_9⟩
                        have m0_0 := m0_0.ext hE20_9
                        have m0_1 := m0_1.ext hE20_9
                        have mp := mp.ext hE20_9
                        have hR := hR.ext hE20_9
                        have hQ9_1 := hQ9_1.ext hE20_9
                        have hR20_5 := hR20_5.ext hE20_9
                        have hX := hX.trans hE20_9
                        refine xl_pure rfl rfl rfl (pv_move (v := .slice _ _ _) rfl rfl) ?_
                        refine xl_heavy rfl rfl rfl (hv_call (g := 23) rfl rfl (c23 (reX (kX (ldB L L.length) x0 x1 x2 id s0 s1 2) 2 id x2 x0 x1 x2) (ldB L L.length) _ _ _ _ hQ20_9.rows hQ9_1.rows (by have := (goo_re64 (w := 2) (i := id) (p := x2) (t0 := x0) (t1 := x1) (t2 := x2) hg2).2; omega)) rfl) ?_
                        rintro v20_11 H20_11 ⟨r20_11, rfl, hb20_11, rfl⟩
                        obtain rfl : r20_11 = true := hb20_11.2 hbk.2
                        refine xl_pure rfl rfl rfl (pv_pick_t (v := .bool _) rfl rfl rfl) ?_
                        refine xl_pure rfl rfl rfl (pv_move (v := .bool _) rfl rfl) ?_
                        refine xl_heavy rfl rfl rfl (hv_call (g := 11) rfl rfl (c11) rfl) ?_
                        rintro v20_14 H20_14 ⟨rfl, hE20_14⟩
                        have m0_0 := m0_0.ext hE20_14
                        have m0_1 := m0_1.ext hE20_14
                        have mp := mp.ext hE20_14
                        have hR := hR.ext hE20_14
                        have hQ9_1 := hQ9_1.ext hE20_14
                        have hR20_5 := hR20_5.ext hE20_14
                        have hQ20_9 := hQ20_9.ext hE20_14
                        have hX := hX.trans hE20_14
                        refine xl_pure rfl rfl rfl (pv_pick_t (v := .bool _) rfl rfl rfl) ?_
                        refine xl_pure rfl rfl rfl (pv_assign (v := .bool _) rfl rfl) ?_
                        refine xl_nil ?_
                        refine xthen_normal ?_
                        refine xc_ret ?_
                        refine fin_ret (res1 (v := .bool _) rfl rfl) ?_
                        exact ⟨rfl, hX⟩
                      · exact absurd hbk.1 h20_6
                  · exact absurd (by decide) h18_1
          · exact absurd rfl h4_1
        · skip
          refine xl_pure rfl rfl rfl (pv_move (v := .tuple _) rfl rfl) ?_
          refine xl_pure rfl rfl rfl (pv_extract (v := .pointer _) rfl rfl rfl) ?_
          refine xl_pure rfl rfl rfl (pv_extract (v := .int _ _) rfl rfl rfl) ?_
          refine xl_pure rfl rfl rfl (pv_assign (v := .pointer _) rfl rfl) ?_
          refine xl_pure rfl rfl rfl (pv_assign (v := .int _ _) rfl rfl) ?_
          refine xl_nil ?_
          refine xthen_normal ?_
          refine xc_seq ?_
          refine xc_seq ?_
          refine xc_region ?_
          refine xl_pure rfl rfl rfl (pv_move (v := .int _ _) rfl rfl) ?_
          refine xl_ndec rfl rfl rfl (pv_neq rfl rfl rfl) (fun h4_1 => ?_) (fun h4_1 => ?_)
          · exact absurd h4_1 hne
          · skip
            refine xl_nil ?_
            refine xthen_normal ?_
            refine xc_cond_t rfl ?_
            refine xc_seq ?_
            refine xc_region ?_
            refine xl_pure rfl rfl rfl (pv_move (v := .pointer _) rfl rfl) ?_
            refine xl_pure rfl rfl rfl (pv_eql_nn rfl rfl rfl) ?_
            refine xl_pure rfl rfl rfl (pv_move (v := .bool _) rfl rfl) ?_
            refine xl_heavy rfl rfl rfl (hv_call (g := 11) rfl rfl (c11) rfl) ?_
            rintro v5_3 H5_3 ⟨rfl, hE5_3⟩
            have m0_0 := m0_0.ext hE5_3
            have m0_1 := m0_1.ext hE5_3
            have hX := hX.trans hE5_3
            refine xl_pure rfl rfl rfl (pv_pick_t (v := .bool _) rfl rfl rfl) ?_
            refine xl_pure rfl rfl rfl (pv_assign (v := .bool _) rfl rfl) ?_
            refine xl_nil ?_
            refine xthen_normal ?_
            refine xc_ret ?_
            refine xthen_ret ?_
            refine fin_ret (res1 (v := .bool _) rfl rfl) ?_
            exact ⟨rfl, hX⟩
end Go.XG
