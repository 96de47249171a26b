/-
  Walks of the seat's functions over the logic XG: each function, what it computes. Printed by a program out of wip/walks.py.
-/
import Derived.Test.YtjlhjjjhblcokaaI
import Derived.Test.YtjlhjjjhblcokaaXs
import Derived.Test.YtjlhjjjhblcokaaTo
import Derived.Test.YtjlhjjjhblcokaaTa
import Derived.Test.YtjlhjjjhblcokaaTb
import Derived.Test.YtjlhjjjhblcokaaKb
import Derived.Test.YtjlhjjjhblcokaaBa
import Derived.Test.YtjlhjjjhblcokaaBb
import Derived.Test.YtjlhjjjhblcokaaBc
import Derived.Test.YtjlhjjjhblcokaaBg
import Derived.Test.YtjlhjjjhblcokaaBe
namespace Go.XG
open Go.Proofs
set_option maxRecDepth 20000
set_option maxHeartbeats 4000000
theorem c48k {O : Outer} {H : Heap} (k : List Int) (hk : k.length = 4) :
    FnC Try.prog 48 #[.agg (ints k).toArray] O H (fun v H' => (IsB k ∧ v = .bool true ∨ ¬ IsB k ∧ v = .bool false) ∧ Ext H H') := by
  obtain ⟨k0, k1, k2, k3, rfl⟩ := four hk
  exact c48 k0 k1 k2 k3

theorem c13 {O : Outer} {H : Heap} {al : Option Addr} {cl : Nat} {L : List (List Int)} (hL : Rows H al 5 L) (hLl : L.length ≤ 1000) :
    FnC Try.prog 13 #[.slice al L.length cl] O H (fun v H' => ∃ e, LdrB L e ∧ (e = 0 ∧ (∃ a' c', v = .tuple #[.slice a' (ldB L L.length).length c', .int .i64 0] ∧ RowsT H' 99 5 a' (ldB L L.length)) ∨ e ≠ 0 ∧ v = .tuple #[.slice none 0 0, .int .i64 e]) ∧ Ext H H') := by
  refine fn_enter (A := [.slice al L.length cl]) Try.func13 rfl rfl ?_
  have hX := Ext.refl H
  refine xc_seq ?_
  refine xc_region ?_
  refine xl_pure rfl rfl rfl (pv_assign (v := .slice _ _ _) rfl rfl) ?_
  refine xl_pure rfl rfl rfl (pv_assign (v := .int _ _) rfl rfl) ?_
  refine xl_nil ?_
  refine xthen_normal ?_
  refine xc_seq ?_
  refine xc_region ?_
  refine xl_pure rfl rfl rfl (pv_assign (v := .slice _ _ _) rfl rfl) ?_
  refine xl_nil ?_
  refine xthen_normal ?_
  refine xc_seq ?_
  refine xc_seq ?_
  refine xc_region ?_
  refine xl_pure rfl rfl rfl (pv_assign (v := .int _ _) rfl rfl) ?_
  refine xl_nil ?_
  refine xthen_normal ?_
  refine xc_block ?_
  refine xc_loop (τ := Nat × Option Addr × Nat) (fun t => [(0, .slice al L.length cl), (4, .slice t.2.1 (ldB L t.1).length t.2.2), (5, .int .i64 (t.1 : Nat))]) (fun t H' => (t.1 ≤ L.length) ∧ (OksB L t.1) ∧ (RowsT H' 99 5 t.2.1 (ldB L t.1)) ∧ (Ext H H')) (fun t H' => L.length - t.1) (0, none, 0) ?_ ?_ ?_
  · exact ⟨rfl, rfl, rfl, trivial⟩
  · skip
    exact ⟨Nat.zero_le _, fun j h => absurd h (by omega), RowsT.nil, hX⟩
  · intro σ
    clear hX
    rintro ⟨i, a1, c1⟩ Hl3 ⟨hi, hok, hQ, hX⟩
    replace hi : i ≤ L.length := hi
    replace hok : OksB L i := hok
    replace hQ : RowsT Hl3 99 5 a1 (ldB L i) := hQ
    replace hX : Ext H Hl3 := hX
    have hgh := lds_half hL.1 hi hok
    have hyl := hgh.len
    obtain ⟨bl, ofl, hLe⟩ := (hL.ext hX).at'
    show XC _ _ _ (upds σ [(0, .slice al L.length cl), (4, .slice a1 (ldB L i).length c1), (5, .int .i64 (i : Nat))]) _
    refine xc_seq ?_
    refine xc_seq ?_
    refine xc_region ?_
    refine xl_pure rfl rfl rfl (pv_move (v := .int _ _) rfl rfl) ?_
    refine xl_pure rfl rfl rfl (pv_move (v := .slice _ _ _) rfl rfl) ?_
    refine xl_pure rfl rfl rfl (pv_len_l rfl rfl) ?_
    refine xl_dec rfl rfl rfl (pv_lss rfl rfl rfl) (fun h3_3 => ?_) (fun h3_3 => ?_)
    · skip
      refine xl_nil ?_
      refine xthen_normal ?_
      refine xc_cond_t rfl ?_
      refine xc_skip ?_
      refine xthen_normal ?_
      refine xc_seq ?_
      refine xc_block ?_
      refine xc_seq ?_
      refine xc_seq ?_
      have q1 : (gr L (i : Int).toNat).getD 4 0 = ((gr L i).getD 4 0) := rfl
      have hil : i < L.length := by omega
      have hk4 := ky_len (hL.1.get hil) (by decide)
      refine xc_region ?_
      refine xl_pure rfl rfl rfl (pv_move (v := .slice _ _ _) rfl rfl) ?_
      refine xl_pure rfl rfl rfl (pv_move (v := .int _ _) rfl rfl) ?_
      refine xl_pure rfl rfl rfl (pv_indexAddr_l rfl (sl_eq (hLe (by omega)).1) rfl (by omega)) ?_
      refine xl_pure rfl rfl rfl (pv_fieldAddr rfl rfl) ?_
      refine xl_light rfl rfl rfl (lv_load (v := .agg _) rfl rfl (by exact ld_rky (hLe (by omega)).2 hL.1 (by decide) (by omega))) ?_
      refine xl_heavy rfl rfl rfl (hv_call (g := 48) rfl rfl (c48k (ky (gr L i)) hk4) rfl) ?_
      rintro v5_5 H5_5 ⟨hv5_5, hE5_5⟩
      have hQ := hQ.ext hE5_5
      have hX := hX.trans hE5_5
      have hLe2 : 0 < L.length → al = some ⟨bl, ofl, none⟩ ∧ RowsAt H5_5 bl ofl 5 L := fun h0 => ⟨(hLe h0).1, fun i hi j v hv => cellAt_ext ((hLe h0).2 i hi j v hv) hE5_5⟩
      rcases hv5_5 with ⟨hi5_5, rfl⟩ | ⟨hi5_5, rfl⟩
      · skip
        refine xl_pure rfl rfl rfl (pv_not rfl rfl) ?_
        refine xl_pure rfl rfl rfl (pv_move (v := .bool _) rfl rfl) ?_
        refine xl_pure rfl rfl rfl (pv_move (v := .slice _ _ _) rfl rfl) ?_
        refine xl_pure rfl rfl rfl (pv_move (v := .int _ _) rfl rfl) ?_
        refine xl_pure rfl rfl rfl (pv_indexAddr_l rfl (sl_eq (hLe (by omega)).1) rfl (by omega)) ?_
        refine xl_pure rfl rfl rfl (pv_fieldAddr rfl rfl) ?_
        refine xl_light rfl rfl rfl (lv_load (v := .int _ _) rfl rfl (by exact ld_num (j := 4) (hLe2 (by omega)).2 hL.1 (by omega) (by decide))) ?_
        refine xl_dec rfl rfl rfl (pv_lss rfl rfl rfl) (fun h5_13 => ?_) (fun h5_13 => ?_)
        · skip
          refine xl_pure rfl rfl rfl (pv_pick_f (v := .bool _) rfl rfl rfl) ?_
          refine xl_pure rfl rfl rfl (pv_move (v := .bool _) rfl rfl) ?_
          refine xl_skip rfl rfl rfl ?_
          refine xl_skip rfl rfl rfl ?_
          refine xl_skip rfl rfl rfl ?_
          refine xl_skip rfl rfl rfl ?_
          refine xl_skip rfl rfl rfl ?_
          refine xl_skip rfl rfl rfl ?_
          refine xl_pure rfl rfl rfl (pv_pick_t (v := .bool _) rfl rfl rfl) ?_
          refine xl_pure rfl rfl rfl (pv_move (v := .bool _) rfl rfl) ?_
          refine xl_skip rfl rfl rfl ?_
          refine xl_skip rfl rfl rfl ?_
          refine xl_skip rfl rfl rfl ?_
          refine xl_skip rfl rfl rfl ?_
          refine xl_skip rfl rfl rfl ?_
          refine xl_skip rfl rfl rfl ?_
          refine xl_skip rfl rfl rfl ?_
          refine xl_skip rfl rfl rfl ?_
          refine xl_pure rfl rfl rfl (pv_pick_t (v := .bool _) rfl rfl rfl) ?_
          refine xl_nil ?_
          refine xthen_normal ?_
          refine xc_cond_t rfl ?_
          refine xc_seq ?_
          refine xc_region ?_
          refine xl_pure rfl rfl rfl (pv_assign (v := .slice _ _ _) rfl rfl) ?_
          refine xl_pure rfl rfl rfl (pv_assign (v := .int _ _) rfl rfl) ?_
          refine xl_nil ?_
          refine xthen_normal ?_
          refine xc_ret ?_
          refine xthen_ret ?_
          refine xblock_ret ?_
          refine xthen_ret ?_
          refine xthen_ret ?_
          refine xblock_ret ?_
          refine xthen_ret ?_
          refine fin_ret (res2 (v := .slice _ _ _) (x := .int _ _) rfl rfl rfl) ?_
          exact ⟨1, .inl ⟨rfl, i, by omega, hok, fun h => by first | exact hi5_5 h.is | (have h1 := h.pos; omega) | (have h1 := h.le; omega) | (have h1 := h.new; have h2 := (hgh.qty hk4).1 h5_31; rw [h1] at h2; cases h2)⟩, .inr ⟨by decide, rfl⟩, hX⟩
        · skip
          refine xl_pure rfl rfl rfl (pv_pick_f (v := .bool _) rfl rfl rfl) ?_
          refine xl_pure rfl rfl rfl (pv_move (v := .bool _) rfl rfl) ?_
          refine xl_pure rfl rfl rfl (pv_move (v := .slice _ _ _) rfl rfl) ?_
          refine xl_pure rfl rfl rfl (pv_move (v := .int _ _) rfl rfl) ?_
          refine xl_pure rfl rfl rfl (pv_indexAddr_l rfl (sl_eq (hLe (by omega)).1) rfl (by omega)) ?_
          refine xl_pure rfl rfl rfl (pv_fieldAddr rfl rfl) ?_
          refine xl_light rfl rfl rfl (lv_load (v := .int _ _) rfl rfl (by exact ld_num (j := 4) (hLe2 (by omega)).2 hL.1 (by omega) (by decide))) ?_
          refine xl_dec rfl rfl rfl (pv_gtr rfl rfl rfl) (fun h5_21 => ?_) (fun h5_21 => ?_)
          · skip
            refine xl_pure rfl rfl rfl (pv_pick_f (v := .bool _) rfl rfl rfl) ?_
            refine xl_pure rfl rfl rfl (pv_move (v := .bool _) rfl rfl) ?_
            refine xl_skip rfl rfl rfl ?_
            refine xl_skip rfl rfl rfl ?_
            refine xl_skip rfl rfl rfl ?_
            refine xl_skip rfl rfl rfl ?_
            refine xl_skip rfl rfl rfl ?_
            refine xl_skip rfl rfl rfl ?_
            refine xl_skip rfl rfl rfl ?_
            refine xl_skip rfl rfl rfl ?_
            refine xl_pure rfl rfl rfl (pv_pick_t (v := .bool _) rfl rfl rfl) ?_
            refine xl_nil ?_
            refine xthen_normal ?_
            refine xc_cond_t rfl ?_
            refine xc_seq ?_
            refine xc_region ?_
            refine xl_pure rfl rfl rfl (pv_assign (v := .slice _ _ _) rfl rfl) ?_
            refine xl_pure rfl rfl rfl (pv_assign (v := .int _ _) rfl rfl) ?_
            refine xl_nil ?_
            refine xthen_normal ?_
            refine xc_ret ?_
            refine xthen_ret ?_
            refine xblock_ret ?_
            refine xthen_ret ?_
            refine xthen_ret ?_
            refine xblock_ret ?_
            refine xthen_ret ?_
            refine fin_ret (res2 (v := .slice _ _ _) (x := .int _ _) rfl rfl rfl) ?_
            exact ⟨1, .inl ⟨rfl, i, by omega, hok, fun h => by first | exact hi5_5 h.is | (have h1 := h.pos; omega) | (have h1 := h.le; omega) | (have h1 := h.new; have h2 := (hgh.qty hk4).1 h5_31; rw [h1] at h2; cases h2)⟩, .inr ⟨by decide, rfl⟩, hX⟩
          · skip
            refine xl_pure rfl rfl rfl (pv_pick_f (v := .bool _) rfl rfl rfl) ?_
            refine xl_pure rfl rfl rfl (pv_move (v := .bool _) rfl rfl) ?_
            refine xl_pure rfl rfl rfl (pv_move (v := .slice _ _ _) rfl rfl) ?_
            refine xl_pure rfl rfl rfl (pv_move (v := .slice _ _ _) rfl rfl) ?_
            refine xl_pure rfl rfl rfl (pv_move (v := .int _ _) rfl rfl) ?_
            refine xl_pure rfl rfl rfl (pv_indexAddr_l rfl (sl_eq (hLe (by omega)).1) rfl (by omega)) ?_
            refine xl_pure rfl rfl rfl (pv_fieldAddr rfl rfl) ?_
            refine xl_light rfl rfl rfl (lv_load (v := .agg _) rfl rfl (by exact ld_rky (hLe2 (by omega)).2 hL.1 (by decide) (by omega))) ?_
            refine xl_heavy rfl rfl rfl (hv_call (g := 49) rfl rfl (c49 hQ hgh.srt (by omega) (ky (gr L i)) hk4) rfl) ?_
            rintro v5_30 H5_30 ⟨rfl, hE5_30⟩
            have hQ := hQ.ext hE5_30
            have hX := hX.trans hE5_30
            have hLe3 : 0 < L.length → al = some ⟨bl, ofl, none⟩ ∧ RowsAt H5_30 bl ofl 5 L := fun h0 => ⟨(hLe2 h0).1, fun i hi j v hv => cellAt_ext ((hLe2 h0).2 i hi j v hv) hE5_30⟩
            refine xl_dec rfl rfl rfl (pv_gtr rfl rfl rfl) (fun h5_31 => ?_) (fun h5_31 => ?_)
            · skip
              refine xl_pure rfl rfl rfl (pv_pick_f (v := .bool _) rfl rfl rfl) ?_
              refine xl_nil ?_
              refine xthen_normal ?_
              refine xc_cond_t rfl ?_
              refine xc_seq ?_
              refine xc_region ?_
              refine xl_pure rfl rfl rfl (pv_assign (v := .slice _ _ _) rfl rfl) ?_
              refine xl_pure rfl rfl rfl (pv_assign (v := .int _ _) rfl rfl) ?_
              refine xl_nil ?_
              refine xthen_normal ?_
              refine xc_ret ?_
              refine xthen_ret ?_
              refine xblock_ret ?_
              refine xthen_ret ?_
              refine xthen_ret ?_
              refine xblock_ret ?_
              refine xthen_ret ?_
              refine fin_ret (res2 (v := .slice _ _ _) (x := .int _ _) rfl rfl rfl) ?_
              exact ⟨1, .inl ⟨rfl, i, by omega, hok, fun h => by first | exact hi5_5 h.is | (have h1 := h.pos; omega) | (have h1 := h.le; omega) | (have h1 := h.new; have h2 := (hgh.qty hk4).1 h5_31; rw [h1] at h2; cases h2)⟩, .inr ⟨by decide, rfl⟩, hX⟩
            · skip
              refine xl_pure rfl rfl rfl (pv_pick_f (v := .bool _) rfl rfl rfl) ?_
              refine xl_nil ?_
              refine xthen_normal ?_
              refine xc_cond_f rfl ?_
              refine xc_skip ?_
              refine xthen_normal ?_
              have hok2 : OkB (ldB L i) (gr L i) := ⟨hi5_5, by omega, by omega, by cases hh : hasK (ldB L i) (ky (gr L i)); rfl; exact absurd ((hgh.qty hk4).2 hh) h5_31⟩
              have eP : setB (ldB L i) (ky (gr L i)) ((gr L i).getD 4 0) = ldB L (i + 1) := hgh.set hok2 (hL.1.get hil)
              refine xp_start rfl (by repeat (first | with_reducible exact np_fin | with_reducible exact np_ret | with_reducible refine np_then ?_ | with_reducible refine np_block ?_)) (by kernel_rfl) ?_
              refine xp_pure (i := 0) rfl (by kernel_rfl) (by kernel_rfl) rfl rfl rfl (pv_move (v := .slice _ _ _) rfl rfl) ?_
              refine xp_pure (i := 1) rfl (by kernel_rfl) (by kernel_rfl) rfl rfl rfl (pv_move (v := .slice _ _ _) rfl rfl) ?_
              refine xp_pure (i := 2) rfl (by kernel_rfl) (by kernel_rfl) rfl rfl rfl (pv_move (v := .int _ _) rfl rfl) ?_
              refine xp_pure (i := 3) rfl (by kernel_rfl) (by kernel_rfl) rfl rfl rfl (pv_indexAddr_l rfl (sl_eq (hLe (by omega)).1) rfl (by omega)) ?_
              refine xp_pure (i := 4) rfl (by kernel_rfl) (by kernel_rfl) rfl rfl rfl (pv_fieldAddr rfl rfl) ?_
              refine xp_light (i := 5) rfl (by kernel_rfl) (by kernel_rfl) rfl rfl rfl (lv_load (v := .agg _) rfl rfl (by exact ld_rky (hLe3 (by omega)).2 hL.1 (by decide) (by omega))) ?_
              refine xp_pure (i := 6) rfl (by kernel_rfl) (by kernel_rfl) rfl rfl rfl (pv_move (v := .slice _ _ _) rfl rfl) ?_
              refine xp_pure (i := 7) rfl (by kernel_rfl) (by kernel_rfl) rfl rfl rfl (pv_move (v := .int _ _) rfl rfl) ?_
              refine xp_pure (i := 8) rfl (by kernel_rfl) (by kernel_rfl) rfl rfl rfl (pv_indexAddr_l rfl (sl_eq (hLe (by omega)).1) rfl (by omega)) ?_
              refine xp_pure (i := 9) rfl (by kernel_rfl) (by kernel_rfl) rfl rfl rfl (pv_fieldAddr rfl rfl) ?_
              refine xp_light (i := 10) rfl (by kernel_rfl) (by kernel_rfl) rfl rfl rfl (lv_load (v := .int _ _) rfl rfl (by exact ld_num (j := 4) (hLe3 (by omega)).2 hL.1 (by omega) (by decide))) ?_
              refine xp_heavy (i := 11) (by kernel_rfl) ?_
              refine xph_val rfl rfl rfl rfl (hv_call (g := 50) rfl rfl (c50 hQ hgh.srt (by omega) (ky (gr L i)) hk4 ((gr L i).getD 4 0)) rfl) (pd (by kernel_rfl) (pd (by kernel_rfl) pn)) ?_
              rintro v7_11 H7_11 ⟨a7_11, c7_11, rfl, hQ7_11, hE7_11⟩
              have hQ := hQ.ext hE7_11
              have hX := hX.trans hE7_11
              refine ⟨okn, ?_⟩
              refine xp_pure (i := 12) rfl (by kernel_rfl) (by kernel_rfl) rfl rfl rfl (pv_assign (v := .slice _ _ _) rfl rfl) ?_
              refine xp_done (by kernel_rfl) ?_
              refine xblock_normal ?_
              refine xthen_normal ?_
              refine xc_region ?_
              refine xl_pure rfl rfl rfl (pv_move (v := .int _ _) rfl rfl) ?_
              refine xl_pure rfl rfl rfl (pv_add rfl rfl rfl (fit_i64 (by omega))) ?_
              refine xl_pure rfl rfl rfl (pv_assign (v := .int _ _) rfl rfl) ?_
              refine xl_nil ?_
              refine xthen_normal ?_
              exact ⟨(i + 1, _, _), ⟨rfl, slv (by rw [eP]), rfl, trivial⟩, ⟨by (try simp only); omega, all_next hok hok2, by have h := hQ7_11; rw [eP] at h; exact h, hX⟩, by (try simp only); omega⟩
      · skip
        refine xl_pure rfl rfl rfl (pv_not rfl rfl) ?_
        refine xl_pure rfl rfl rfl (pv_move (v := .bool _) rfl rfl) ?_
        refine xl_skip rfl rfl rfl ?_
        refine xl_skip rfl rfl rfl ?_
        refine xl_skip rfl rfl rfl ?_
        refine xl_skip rfl rfl rfl ?_
        refine xl_skip rfl rfl rfl ?_
        refine xl_skip rfl rfl rfl ?_
        refine xl_pure rfl rfl rfl (pv_pick_t (v := .bool _) rfl rfl rfl) ?_
        refine xl_pure rfl rfl rfl (pv_move (v := .bool _) rfl rfl) ?_
        refine xl_skip rfl rfl rfl ?_
        refine xl_skip rfl rfl rfl ?_
        refine xl_skip rfl rfl rfl ?_
        refine xl_skip rfl rfl rfl ?_
        refine xl_skip rfl rfl rfl ?_
        refine xl_skip rfl rfl rfl ?_
        refine xl_pure rfl rfl rfl (pv_pick_t (v := .bool _) rfl rfl rfl) ?_
        refine xl_pure rfl rfl rfl (pv_move (v := .bool _) rfl rfl) ?_
        refine xl_skip rfl rfl rfl ?_
        refine xl_skip rfl rfl rfl ?_
        refine xl_skip rfl rfl rfl ?_
        refine xl_skip rfl rfl rfl ?_
        refine xl_skip rfl rfl rfl ?_
        refine xl_skip rfl rfl rfl ?_
        refine xl_skip rfl rfl rfl ?_
        refine xl_skip rfl rfl rfl ?_
        refine xl_pure rfl rfl rfl (pv_pick_t (v := .bool _) rfl rfl rfl) ?_
        refine xl_nil ?_
        refine xthen_normal ?_
        refine xc_cond_t rfl ?_
        refine xc_seq ?_
        refine xc_region ?_
        refine xl_pure rfl rfl rfl (pv_assign (v := .slice _ _ _) rfl rfl) ?_
        refine xl_pure rfl rfl rfl (pv_assign (v := .int _ _) rfl rfl) ?_
        refine xl_nil ?_
        refine xthen_normal ?_
        refine xc_ret ?_
        refine xthen_ret ?_
        refine xblock_ret ?_
        refine xthen_ret ?_
        refine xthen_ret ?_
        refine xblock_ret ?_
        refine xthen_ret ?_
        refine fin_ret (res2 (v := .slice _ _ _) (x := .int _ _) rfl rfl rfl) ?_
        exact ⟨1, .inl ⟨rfl, i, by omega, hok, fun h => by first | exact hi5_5 h.is | (have h1 := h.pos; omega) | (have h1 := h.le; omega) | (have h1 := h.new; have h2 := (hgh.qty hk4).1 h5_31; rw [h1] at h2; cases h2)⟩, .inr ⟨by decide, rfl⟩, hX⟩
    · skip
      refine xl_nil ?_
      refine xthen_normal ?_
      refine xc_cond_f rfl ?_
      refine xc_exit ?_
      refine xthen_exit ?_
      refine xthen_exit ?_
      refine xblock_same ?_
      refine xthen_normal ?_
      refine xc_seq ?_
      refine xc_seq ?_
      obtain rfl : i = L.length := by omega
      refine xc_region ?_
      refine xl_pure rfl rfl rfl (pv_assign (v := .int _ _) rfl rfl) ?_
      refine xl_nil ?_
      refine xthen_normal ?_
      refine xc_block ?_
      refine xc_loop (τ := Nat) (fun t => [(4, .slice a1 (ldB L L.length).length c1), (6, .int .i64 ((t : Nat) + 1 : Int))]) (fun t H' => (t ≤ 32) ∧ (∀ u : Int, 1 ≤ u → u ≤ t → totB (ldB L L.length) u ≤ 1125899906842624) ∧ (RowsT H' 99 5 a1 (ldB L L.length)) ∧ (Ext H H')) (fun t H' => 32 - t) 0 ?_ ?_ ?_
      · exact ⟨rfl, rfl, trivial⟩
      · skip
        exact ⟨Nat.zero_le _, fun t h1 h2 => absurd h1 (by omega), hQ, hX⟩
      · intro σ
        clear hX hQ
        rintro n Hl9 ⟨hn, hall, hQ, hX⟩
        replace hn : n ≤ 32 := hn
        replace hall : ∀ u : Int, 1 ≤ u → u ≤ n → totB (ldB L L.length) u ≤ 1125899906842624 := hall
        replace hQ : RowsT Hl9 99 5 a1 (ldB L L.length) := hQ
        replace hX : Ext H Hl9 := hX
        obtain ⟨bb, ofb, hbe⟩ := hQ.at
        show XC _ _ _ (upds σ [(4, .slice a1 (ldB L L.length).length c1), (6, .int .i64 ((n : Nat) + 1 : Int))]) _
        refine xc_seq ?_
        refine xc_seq ?_
        refine xc_region ?_
        refine xl_pure rfl rfl rfl (pv_move (v := .int _ _) rfl rfl) ?_
        refine xl_dec rfl rfl rfl (pv_leq rfl rfl rfl) (fun h9_1 => ?_) (fun h9_1 => ?_)
        · skip
          refine xl_nil ?_
          refine xthen_normal ?_
          refine xc_cond_t rfl ?_
          refine xc_skip ?_
          refine xthen_normal ?_
          refine xc_seq ?_
          refine xc_block ?_
          refine xc_seq ?_
          refine xc_region ?_
          refine xl_pure rfl rfl rfl (pv_assign (v := .int _ _) rfl rfl) ?_
          refine xl_nil ?_
          refine xthen_normal ?_
          refine xc_seq ?_
          refine xc_region ?_
          refine xl_pure rfl rfl rfl (pv_assign (v := .int _ _) rfl rfl) ?_
          refine xl_nil ?_
          refine xthen_normal ?_
          refine xc_block ?_
          refine xc_loop (τ := Nat) (fun t => [(4, .slice a1 (ldB L L.length).length c1), (6, .int .i64 ((n : Nat) + 1 : Int)), (7, .int .i64 (totB ((ldB L L.length).take t) ((n : Int) + 1))), (8, .int .i64 (t : Nat))]) (fun t H' => (t ≤ (ldB L L.length).length) ∧ (totB ((ldB L L.length).take t) ((n : Int) + 1) ≤ 1125899906842624) ∧ (RowsT H' 99 5 a1 (ldB L L.length)) ∧ (Ext H H')) (fun t H' => (ldB L L.length).length - t) 0 ?_ ?_ ?_
          · exact ⟨rfl, rfl, rfl, rfl, trivial⟩
          · skip
            exact ⟨Nat.zero_le _, by simp [totB], hQ, hX⟩
          · intro σ
            clear hX hQ
            rintro j Hl13 ⟨hj, hle, hQ, hX⟩
            replace hj : j ≤ (ldB L L.length).length := hj
            replace hle : totB ((ldB L L.length).take j) ((n : Int) + 1) ≤ 1125899906842624 := hle
            replace hQ : RowsT Hl13 99 5 a1 (ldB L L.length) := hQ
            replace hX : Ext H Hl13 := hX
            obtain ⟨bb, ofb, hbe⟩ := hQ.at
            show XC _ _ _ (upds σ [(4, .slice a1 (ldB L L.length).length c1), (6, .int .i64 ((n : Nat) + 1 : Int)), (7, .int .i64 (totB ((ldB L L.length).take j) ((n : Int) + 1))), (8, .int .i64 (j : Nat))]) _
            refine xc_seq ?_
            refine xc_seq ?_
            refine xc_region ?_
            refine xl_pure rfl rfl rfl (pv_move (v := .int _ _) rfl rfl) ?_
            refine xl_pure rfl rfl rfl (pv_move (v := .slice _ _ _) rfl rfl) ?_
            refine xl_pure rfl rfl rfl (pv_len_l rfl rfl) ?_
            refine xl_dec rfl rfl rfl (pv_lss rfl rfl rfl) (fun h13_3 => ?_) (fun h13_3 => ?_)
            · skip
              refine xl_nil ?_
              refine xthen_normal ?_
              refine xc_cond_t rfl ?_
              refine xc_skip ?_
              refine xthen_normal ?_
              refine xc_seq ?_
              refine xc_block ?_
              refine xc_seq ?_
              have tot1 : totB ((ldB L L.length).take (j + 1)) ((n : Int) + 1) = totB ((ldB L L.length).take j) ((n : Int) + 1) + (if (gr (ldB L L.length) (j : Int).toNat).getD 3 0 = (n : Int) + 1 then (gr (ldB L L.length) (j : Int).toNat).getD 4 0 else 0) := totB_take (l := (ldB L L.length)) (i := j) (by omega)
              have tp1 := hgh.part j ((n : Int) + 1)
              have tp2 := hgh.part (j + 1) ((n : Int) + 1)
              refine xc_region ?_
              refine xl_pure rfl rfl rfl (pv_move (v := .slice _ _ _) rfl rfl) ?_
              refine xl_pure rfl rfl rfl (pv_move (v := .int _ _) rfl rfl) ?_
              refine xl_pure rfl rfl rfl (pv_indexAddr_l rfl (sl_eq (hbe (by omega)).1) rfl (by omega)) ?_
              refine xl_pure rfl rfl rfl (pv_fieldAddr rfl rfl) ?_
              refine xl_pure rfl rfl rfl (pv_fieldAddr rfl rfl) ?_
              refine xl_light rfl rfl rfl (lv_load (v := .int _ _) rfl rfl (by exact ld_num (j := 3) (hbe (by omega)).2 hQ.wide (by omega) (by decide))) ?_
              refine xl_pure rfl rfl rfl (pv_move (v := .int _ _) rfl rfl) ?_
              refine xl_dec rfl rfl rfl (pv_eql rfl rfl rfl) (fun h15_7 => ?_) (fun h15_7 => ?_)
              · skip
                refine xl_nil ?_
                refine xthen_normal ?_
                refine xc_cond_t rfl ?_
                refine xc_seq ?_
                refine xc_seq ?_
                rw [if_pos h15_7] at tot1
                have hmem := hgh.le (gr (ldB L L.length) j) (by rw [gr_eq (by omega)]; exact List.getElem_mem _)
                have q2 : (gr (ldB L L.length) (j : Int).toNat).getD 4 0 = (gr (ldB L L.length) j).getD 4 0 := rfl
                refine xc_region ?_
                refine xl_pure rfl rfl rfl (pv_move (v := .slice _ _ _) rfl rfl) ?_
                refine xl_pure rfl rfl rfl (pv_move (v := .int _ _) rfl rfl) ?_
                refine xl_pure rfl rfl rfl (pv_indexAddr_l rfl (sl_eq (hbe (by omega)).1) rfl (by omega)) ?_
                refine xl_pure rfl rfl rfl (pv_fieldAddr rfl rfl) ?_
                refine xl_light rfl rfl rfl (lv_load (v := .int _ _) rfl rfl (by exact ld_num (j := 4) (hbe (by omega)).2 hQ.wide (by omega) (by decide))) ?_
                refine xl_pure rfl rfl rfl (pv_move (v := .int _ _) rfl rfl) ?_
                refine xl_pure rfl rfl rfl (pv_sub rfl rfl rfl (fit_i64 (by omega))) ?_
                refine xl_dec rfl rfl rfl (pv_gtr rfl rfl rfl) (fun h16_7 => ?_) (fun h16_7 => ?_)
                · skip
                  refine xl_nil ?_
                  refine xthen_normal ?_
                  refine xc_cond_t rfl ?_
                  refine xc_seq ?_
                  refine xc_region ?_
                  refine xl_pure rfl rfl rfl (pv_assign (v := .slice _ _ _) rfl rfl) ?_
                  refine xl_pure rfl rfl rfl (pv_assign (v := .int _ _) rfl rfl) ?_
                  refine xl_nil ?_
                  refine xthen_normal ?_
                  refine xc_ret ?_
                  refine xthen_ret ?_
                  refine xblock_ret ?_
                  refine xthen_ret ?_
                  refine xthen_ret ?_
                  refine xblock_ret ?_
                  refine xblock_ret ?_
                  refine xthen_ret ?_
                  refine xthen_ret ?_
                  refine xblock_ret ?_
                  refine xthen_ret ?_
                  refine fin_ret (res2 (v := .slice _ _ _) (x := .int _ _) rfl rfl rfl) ?_
                  exact ⟨5, .inr ⟨hok, .inl ⟨rfl, (n : Int) + 1, by omega⟩⟩, .inr ⟨by decide, rfl⟩, hX⟩
                · skip
                  refine xl_nil ?_
                  refine xthen_normal ?_
                  refine xc_cond_f rfl ?_
                  refine xc_skip ?_
                  refine xthen_normal ?_
                  refine xc_region ?_
                  refine xl_pure rfl rfl rfl (pv_move (v := .int _ _) rfl rfl) ?_
                  refine xl_pure rfl rfl rfl (pv_move (v := .slice _ _ _) rfl rfl) ?_
                  refine xl_pure rfl rfl rfl (pv_move (v := .int _ _) rfl rfl) ?_
                  refine xl_pure rfl rfl rfl (pv_indexAddr_l rfl (sl_eq (hbe (by omega)).1) rfl (by omega)) ?_
                  refine xl_pure rfl rfl rfl (pv_fieldAddr rfl rfl) ?_
                  refine xl_light rfl rfl rfl (lv_load (v := .int _ _) rfl rfl (by exact ld_num (j := 4) (hbe (by omega)).2 hQ.wide (by omega) (by decide))) ?_
                  refine xl_pure rfl rfl rfl (pv_add rfl rfl rfl (fit_i64 (by omega))) ?_
                  refine xl_pure rfl rfl rfl (pv_assign (v := .int _ _) rfl rfl) ?_
                  refine xl_nil ?_
                  refine xblock_normal ?_
                  refine xthen_normal ?_
                  refine xc_region ?_
                  refine xl_pure rfl rfl rfl (pv_move (v := .int _ _) rfl rfl) ?_
                  refine xl_pure rfl rfl rfl (pv_add rfl rfl rfl (fit_i64 (by omega))) ?_
                  refine xl_pure rfl rfl rfl (pv_assign (v := .int _ _) rfl rfl) ?_
                  refine xl_nil ?_
                  refine xthen_normal ?_
                  first
                    | exact ⟨j + 1, ⟨rfl, rfl, iv tot1.symm, rfl, trivial⟩, ⟨by (try simp only); omega, by rw [tot1]; omega, hQ, hX⟩, by (try simp only); omega⟩
                    | exact ⟨j + 1, ⟨rfl, rfl, iv (by rw [tot1, if_neg h15_7, Int.add_zero]), rfl, trivial⟩, ⟨by (try simp only); omega, by rw [tot1, if_neg h15_7, Int.add_zero]; exact hle, hQ, hX⟩, by (try simp only); omega⟩
              · skip
                refine xl_nil ?_
                refine xthen_normal ?_
                refine xc_cond_f rfl ?_
                refine xc_skip ?_
                refine xblock_normal ?_
                refine xthen_normal ?_
                refine xc_region ?_
                refine xl_pure rfl rfl rfl (pv_move (v := .int _ _) rfl rfl) ?_
                refine xl_pure rfl rfl rfl (pv_add rfl rfl rfl (fit_i64 (by omega))) ?_
                refine xl_pure rfl rfl rfl (pv_assign (v := .int _ _) rfl rfl) ?_
                refine xl_nil ?_
                refine xthen_normal ?_
                first
                  | exact ⟨j + 1, ⟨rfl, rfl, iv tot1.symm, rfl, trivial⟩, ⟨by (try simp only); omega, by rw [tot1]; omega, hQ, hX⟩, by (try simp only); omega⟩
                  | exact ⟨j + 1, ⟨rfl, rfl, iv (by rw [tot1, if_neg h15_7, Int.add_zero]), rfl, trivial⟩, ⟨by (try simp only); omega, by rw [tot1, if_neg h15_7, Int.add_zero]; exact hle, hQ, hX⟩, by (try simp only); omega⟩
            · skip
              refine xl_nil ?_
              refine xthen_normal ?_
              refine xc_cond_f rfl ?_
              refine xc_exit ?_
              refine xthen_exit ?_
              refine xthen_exit ?_
              refine xblock_same ?_
              refine xblock_normal ?_
              refine xthen_normal ?_
              refine xc_region ?_
              refine xl_pure rfl rfl rfl (pv_move (v := .int _ _) rfl rfl) ?_
              refine xl_pure rfl rfl rfl (pv_add rfl rfl rfl (fit_i64 (by omega))) ?_
              refine xl_pure rfl rfl rfl (pv_assign (v := .int _ _) rfl rfl) ?_
              refine xl_nil ?_
              refine xthen_normal ?_
              exact ⟨n + 1, ⟨rfl, rfl, trivial⟩, ⟨by (try simp only); omega, fun u h1 h2 => (Int.lt_or_le (n : Int) u).elim (fun h3 => by have h5 : u = (n : Int) + 1 := (by omega); have h4 := hle; rw [List.take_of_length_le (by omega)] at h4; rw [h5]; exact h4) (fun h3 => hall u h1 h3), hQ, hX⟩, by (try simp only); omega⟩
        · skip
          refine xl_nil ?_
          refine xthen_normal ?_
          refine xc_cond_f rfl ?_
          refine xc_exit ?_
          refine xthen_exit ?_
          refine xthen_exit ?_
          refine xblock_same ?_
          refine xthen_normal ?_
          refine xc_seq ?_
          refine xc_region ?_
          refine xl_pure rfl rfl rfl (pv_move (v := .slice _ _ _) rfl rfl) ?_
          refine xl_pure rfl rfl rfl (pv_assign (v := .slice _ _ _) rfl rfl) ?_
          refine xl_pure rfl rfl rfl (pv_assign (v := .int _ _) rfl rfl) ?_
          refine xl_nil ?_
          refine xthen_normal ?_
          refine xc_ret ?_
          refine fin_ret (res2 (v := .slice _ _ _) (x := .int _ _) rfl rfl rfl) ?_
          obtain rfl : n = 32 := by omega
          exact ⟨0, .inr ⟨hok, .inr ⟨rfl, fun t => by by_cases ht : 1 ≤ t ∧ t ≤ 32; exact hall t ht.1 ht.2; rw [hgh.out ht]; decide⟩⟩, .inl ⟨rfl, _, _, rfl, hQ⟩, hX⟩
end Go.XG
