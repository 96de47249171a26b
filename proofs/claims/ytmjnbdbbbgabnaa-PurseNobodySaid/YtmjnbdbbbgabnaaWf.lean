/-
  Walks of the seat's functions over the logic XG: each function, what it computes. Printed by a program out of wip/walks.py.
-/
import Derived.Test.YtmjnbdbbbgabnaaI
import Derived.Test.YtmjnbdbbbgabnaaTm
import Derived.Test.YtmjnbdbbbgabnaaTa
import Derived.Test.YtmjnbdbbbgabnaaTb
import Derived.Test.YtmjnbdbbbgabnaaTd
import Derived.Test.YtmjnbdbbbgabnaaTc
import Derived.Test.YtmjnbdbbbgabnaaP
import Derived.Test.YtmjnbdbbbgabnaaWa
import Derived.Test.YtmjnbdbbbgabnaaWb
import Derived.Test.YtmjnbdbbbgabnaaWc
import Derived.Test.YtmjnbdbbbgabnaaQ
import Derived.Test.YtmjnbdbbbgabnaaTo
import Derived.Test.YtmjnbdbbbgabnaaWd
import Derived.Test.YtmjnbdbbbgabnaaWe
namespace Go.XG
open Go.Proofs
set_option maxRecDepth 4000
set_option maxHeartbeats 4000000
theorem c9 {O : Outer} {H : Heap} {al : Option Addr} {cl : Nat} {L : List (List Int)} (hL : Rows H al 2 L) (hLl : L.length ≤ 1000) :
    FnC Try.prog 9 #[.slice al L.length cl] O H (fun v H' => ∃ e, Ldr L e ∧ (e = 0 ∧ (∃ a' c', v = .tuple #[.slice a' (lds L L.length).length c', .int .i64 0] ∧ RowsT H' 60 2 a' (lds L L.length) ∧ (lds L L.length).length ≤ c') ∨ e ≠ 0 ∧ v = .tuple #[.slice none 0 0, .int .i64 e]) ∧ Ext H H') := by
  refine fn_enter (A := [.slice al L.length cl]) Try.func9 rfl rfl ?_
  have hX := Ext.refl H
  refine xc_seq ?_
  refine xc_region ?_
  refine xl_pure rfl rfl rfl (pv_assign (v := .slice _ _ _) rfl rfl) ?_
  refine xl_pure rfl rfl rfl (pv_assign (v := .int _ _) rfl rfl) ?_
  refine xl_nil ?_
  refine xthen_normal ?_
  refine xc_seq ?_
  refine xc_region ?_
  refine xl_pure rfl rfl rfl (pv_assign (v := .slice _ _ _) rfl rfl) ?_
  refine xl_nil ?_
  refine xthen_normal ?_
  refine xc_seq ?_
  refine xc_seq ?_
  refine xc_region ?_
  refine xl_pure rfl rfl rfl (pv_assign (v := .int _ _) rfl rfl) ?_
  refine xl_nil ?_
  refine xthen_normal ?_
  refine xc_block ?_
  refine xc_loop (τ := Nat × Option Addr × Nat) (fun t => [(0, .slice al L.length cl), (4, .slice t.2.1 (lds L t.1).length t.2.2), (5, .int .i64 (t.1 : Nat))]) (fun t H' => (t.1 ≤ L.length) ∧ (OkL L t.1) ∧ (RowsT H' 60 2 t.2.1 (lds L t.1)) ∧ ((lds L t.1).length ≤ t.2.2) ∧ (Ext H H')) (fun t H' => L.length - t.1) (0, none, 0) ?_ ?_ ?_
  · exact ⟨rfl, rfl, rfl, trivial⟩
  · skip
    exact ⟨Nat.zero_le _, fun j hj => absurd hj (by omega), RowsT.nil, Nat.le_refl _, hX⟩
  · intro σ
    clear hX
    rintro ⟨i, a1, c1⟩ Hl3 ⟨hi, hok, hQ, hc1, hX⟩
    replace hi : i ≤ L.length := hi
    replace hok : OkL L i := hok
    replace hQ : RowsT Hl3 60 2 a1 (lds L i) := hQ
    replace hc1 : (lds L i).length ≤ c1 := hc1
    replace hX : Ext H Hl3 := hX
    obtain ⟨hw1, hs1, hp1, hq1, hl1⟩ := lds_ok hi hok
    obtain ⟨bl, ofl, hLe⟩ := (hL.ext hX).at'
    show XC _ _ _ (upds σ [(0, .slice al L.length cl), (4, .slice a1 (lds L i).length c1), (5, .int .i64 (i : Nat))]) _
    refine xc_seq ?_
    refine xc_seq ?_
    refine xc_region ?_
    refine xl_pure rfl rfl rfl (pv_move (v := .int _ _) rfl rfl) ?_
    refine xl_pure rfl rfl rfl (pv_move (v := .slice _ _ _) rfl rfl) ?_
    refine xl_pure rfl rfl rfl (pv_len_l rfl rfl) ?_
    refine xl_dec rfl rfl rfl (pv_lss rfl rfl rfl) (fun h3_3 => ?_) (fun h3_3 => ?_)
    · skip
      refine xl_nil ?_
      refine xthen_normal ?_
      refine xc_cond_t rfl ?_
      refine xc_skip ?_
      refine xthen_normal ?_
      refine xc_seq ?_
      refine xc_block ?_
      refine xc_seq ?_
      refine xc_seq ?_
      have q0 : (gr L (i : Int).toNat).getD 0 0 = ow (gr L i) := rfl
      have q1 : (gr L (i : Int).toNat).getD 1 0 = mo (gr L i) := rfl
      refine xc_region ?_
      refine xl_pure rfl rfl rfl (pv_move (v := .slice _ _ _) rfl rfl) ?_
      refine xl_pure rfl rfl rfl (pv_move (v := .int _ _) rfl rfl) ?_
      refine xl_pure rfl rfl rfl (pv_indexAddr_l rfl (sl_eq (hLe (by omega)).1) rfl (by omega)) ?_
      refine xl_pure rfl rfl rfl (pv_fieldAddr rfl rfl) ?_
      refine xl_light rfl rfl rfl (lv_load (v := .int _ _) rfl rfl (by exact ld_num (j := 0) (hLe (by omega)).2 hL.1 (by omega) (by decide))) ?_
      refine xl_dec rfl rfl rfl (pv_lss rfl rfl rfl) (fun h5_5 => ?_) (fun h5_5 => ?_)
      · skip
        refine xl_pure rfl rfl rfl (pv_move (v := .bool _) rfl rfl) ?_
        refine xl_skip rfl rfl rfl ?_
        refine xl_skip rfl rfl rfl ?_
        refine xl_skip rfl rfl rfl ?_
        refine xl_skip rfl rfl rfl ?_
        refine xl_skip rfl rfl rfl ?_
        refine xl_skip rfl rfl rfl ?_
        refine xl_pure rfl rfl rfl (pv_pick_t (v := .bool _) rfl rfl rfl) ?_
        refine xl_pure rfl rfl rfl (pv_move (v := .bool _) rfl rfl) ?_
        refine xl_skip rfl rfl rfl ?_
        refine xl_skip rfl rfl rfl ?_
        refine xl_skip rfl rfl rfl ?_
        refine xl_skip rfl rfl rfl ?_
        refine xl_skip rfl rfl rfl ?_
        refine xl_skip rfl rfl rfl ?_
        refine xl_pure rfl rfl rfl (pv_pick_t (v := .bool _) rfl rfl rfl) ?_
        refine xl_pure rfl rfl rfl (pv_move (v := .bool _) rfl rfl) ?_
        refine xl_skip rfl rfl rfl ?_
        refine xl_skip rfl rfl rfl ?_
        refine xl_skip rfl rfl rfl ?_
        refine xl_skip rfl rfl rfl ?_
        refine xl_skip rfl rfl rfl ?_
        refine xl_skip rfl rfl rfl ?_
        refine xl_pure rfl rfl rfl (pv_pick_t (v := .bool _) rfl rfl rfl) ?_
        refine xl_pure rfl rfl rfl (pv_move (v := .bool _) rfl rfl) ?_
        refine xl_skip rfl rfl rfl ?_
        refine xl_skip rfl rfl rfl ?_
        refine xl_skip rfl rfl rfl ?_
        refine xl_skip rfl rfl rfl ?_
        refine xl_skip rfl rfl rfl ?_
        refine xl_skip rfl rfl rfl ?_
        refine xl_skip rfl rfl rfl ?_
        refine xl_skip rfl rfl rfl ?_
        refine xl_pure rfl rfl rfl (pv_pick_t (v := .bool _) rfl rfl rfl) ?_
        refine xl_nil ?_
        refine xthen_normal ?_
        refine xc_cond_t rfl ?_
        refine xc_seq ?_
        refine xc_region ?_
        refine xl_pure rfl rfl rfl (pv_assign (v := .slice _ _ _) rfl rfl) ?_
        refine xl_pure rfl rfl rfl (pv_assign (v := .int _ _) rfl rfl) ?_
        refine xl_nil ?_
        refine xthen_normal ?_
        refine xc_ret ?_
        refine xthen_ret ?_
        refine xblock_ret ?_
        refine xthen_ret ?_
        refine xthen_ret ?_
        refine xblock_ret ?_
        refine xthen_ret ?_
        refine fin_ret (res2 (v := .slice _ _ _) (x := .int _ _) rfl rfl rfl) ?_
        refine ⟨1, .inl ⟨rfl, i, by omega, hok, ?_⟩, .inr ⟨by decide, rfl⟩, hX⟩
        unfold BadL
        first
          | omega
          | (cases hh : hasK (tb (lds L i)) [ow (gr L i), 0, 0, 0]
             · have := find_none hh; omega
             · exact .inr (.inr (.inr (.inr rfl))))
      · skip
        refine xl_pure rfl rfl rfl (pv_move (v := .bool _) rfl rfl) ?_
        refine xl_pure rfl rfl rfl (pv_move (v := .slice _ _ _) rfl rfl) ?_
        refine xl_pure rfl rfl rfl (pv_move (v := .int _ _) rfl rfl) ?_
        refine xl_pure rfl rfl rfl (pv_indexAddr_l rfl (sl_eq (hLe (by omega)).1) rfl (by omega)) ?_
        refine xl_pure rfl rfl rfl (pv_fieldAddr rfl rfl) ?_
        refine xl_light rfl rfl rfl (lv_load (v := .int _ _) rfl rfl (by exact ld_num (j := 0) (hLe (by omega)).2 hL.1 (by omega) (by decide))) ?_
        refine xl_dec rfl rfl rfl (pv_gtr rfl rfl rfl) (fun h5_12 => ?_) (fun h5_12 => ?_)
        · skip
          refine xl_pure rfl rfl rfl (pv_pick_f (v := .bool _) rfl rfl rfl) ?_
          refine xl_pure rfl rfl rfl (pv_move (v := .bool _) rfl rfl) ?_
          refine xl_skip rfl rfl rfl ?_
          refine xl_skip rfl rfl rfl ?_
          refine xl_skip rfl rfl rfl ?_
          refine xl_skip rfl rfl rfl ?_
          refine xl_skip rfl rfl rfl ?_
          refine xl_skip rfl rfl rfl ?_
          refine xl_pure rfl rfl rfl (pv_pick_t (v := .bool _) rfl rfl rfl) ?_
          refine xl_pure rfl rfl rfl (pv_move (v := .bool _) rfl rfl) ?_
          refine xl_skip rfl rfl rfl ?_
          refine xl_skip rfl rfl rfl ?_
          refine xl_skip rfl rfl rfl ?_
          refine xl_skip rfl rfl rfl ?_
          refine xl_skip rfl rfl rfl ?_
          refine xl_skip rfl rfl rfl ?_
          refine xl_pure rfl rfl rfl (pv_pick_t (v := .bool _) rfl rfl rfl) ?_
          refine xl_pure rfl rfl rfl (pv_move (v := .bool _) rfl rfl) ?_
          refine xl_skip rfl rfl rfl ?_
          refine xl_skip rfl rfl rfl ?_
          refine xl_skip rfl rfl rfl ?_
          refine xl_skip rfl rfl rfl ?_
          refine xl_skip rfl rfl rfl ?_
          refine xl_skip rfl rfl rfl ?_
          refine xl_skip rfl rfl rfl ?_
          refine xl_skip rfl rfl rfl ?_
          refine xl_pure rfl rfl rfl (pv_pick_t (v := .bool _) rfl rfl rfl) ?_
          refine xl_nil ?_
          refine xthen_normal ?_
          refine xc_cond_t rfl ?_
          refine xc_seq ?_
          refine xc_region ?_
          refine xl_pure rfl rfl rfl (pv_assign (v := .slice _ _ _) rfl rfl) ?_
          refine xl_pure rfl rfl rfl (pv_assign (v := .int _ _) rfl rfl) ?_
          refine xl_nil ?_
          refine xthen_normal ?_
          refine xc_ret ?_
          refine xthen_ret ?_
          refine xblock_ret ?_
          refine xthen_ret ?_
          refine xthen_ret ?_
          refine xblock_ret ?_
          refine xthen_ret ?_
          refine fin_ret (res2 (v := .slice _ _ _) (x := .int _ _) rfl rfl rfl) ?_
          refine ⟨1, .inl ⟨rfl, i, by omega, hok, ?_⟩, .inr ⟨by decide, rfl⟩, hX⟩
          unfold BadL
          first
            | omega
            | (cases hh : hasK (tb (lds L i)) [ow (gr L i), 0, 0, 0]
               · have := find_none hh; omega
               · exact .inr (.inr (.inr (.inr rfl))))
        · skip
          refine xl_pure rfl rfl rfl (pv_pick_f (v := .bool _) rfl rfl rfl) ?_
          refine xl_pure rfl rfl rfl (pv_move (v := .bool _) rfl rfl) ?_
          refine xl_pure rfl rfl rfl (pv_move (v := .slice _ _ _) rfl rfl) ?_
          refine xl_pure rfl rfl rfl (pv_move (v := .int _ _) rfl rfl) ?_
          refine xl_pure rfl rfl rfl (pv_indexAddr_l rfl (sl_eq (hLe (by omega)).1) rfl (by omega)) ?_
          refine xl_pure rfl rfl rfl (pv_fieldAddr rfl rfl) ?_
          refine xl_light rfl rfl rfl (lv_load (v := .int _ _) rfl rfl (by exact ld_num (j := 1) (hLe (by omega)).2 hL.1 (by omega) (by decide))) ?_
          refine xl_dec rfl rfl rfl (pv_lss rfl rfl rfl) (fun h5_20 => ?_) (fun h5_20 => ?_)
          · skip
            refine xl_pure rfl rfl rfl (pv_pick_f (v := .bool _) rfl rfl rfl) ?_
            refine xl_pure rfl rfl rfl (pv_move (v := .bool _) rfl rfl) ?_
            refine xl_skip rfl rfl rfl ?_
            refine xl_skip rfl rfl rfl ?_
            refine xl_skip rfl rfl rfl ?_
            refine xl_skip rfl rfl rfl ?_
            refine xl_skip rfl rfl rfl ?_
            refine xl_skip rfl rfl rfl ?_
            refine xl_pure rfl rfl rfl (pv_pick_t (v := .bool _) rfl rfl rfl) ?_
            refine xl_pure rfl rfl rfl (pv_move (v := .bool _) rfl rfl) ?_
            refine xl_skip rfl rfl rfl ?_
            refine xl_skip rfl rfl rfl ?_
            refine xl_skip rfl rfl rfl ?_
            refine xl_skip rfl rfl rfl ?_
            refine xl_skip rfl rfl rfl ?_
            refine xl_skip rfl rfl rfl ?_
            refine xl_skip rfl rfl rfl ?_
            refine xl_skip rfl rfl rfl ?_
            refine xl_pure rfl rfl rfl (pv_pick_t (v := .bool _) rfl rfl rfl) ?_
            refine xl_nil ?_
            refine xthen_normal ?_
            refine xc_cond_t rfl ?_
            refine xc_seq ?_
            refine xc_region ?_
            refine xl_pure rfl rfl rfl (pv_assign (v := .slice _ _ _) rfl rfl) ?_
            refine xl_pure rfl rfl rfl (pv_assign (v := .int _ _) rfl rfl) ?_
            refine xl_nil ?_
            refine xthen_normal ?_
            refine xc_ret ?_
            refine xthen_ret ?_
            refine xblock_ret ?_
            refine xthen_ret ?_
            refine xthen_ret ?_
            refine xblock_ret ?_
            refine xthen_ret ?_
            refine fin_ret (res2 (v := .slice _ _ _) (x := .int _ _) rfl rfl rfl) ?_
            refine ⟨1, .inl ⟨rfl, i, by omega, hok, ?_⟩, .inr ⟨by decide, rfl⟩, hX⟩
            unfold BadL
            first
              | omega
              | (cases hh : hasK (tb (lds L i)) [ow (gr L i), 0, 0, 0]
                 · have := find_none hh; omega
                 · exact .inr (.inr (.inr (.inr rfl))))
          · skip
            refine xl_pure rfl rfl rfl (pv_pick_f (v := .bool _) rfl rfl rfl) ?_
            refine xl_pure rfl rfl rfl (pv_move (v := .bool _) rfl rfl) ?_
            refine xl_pure rfl rfl rfl (pv_move (v := .slice _ _ _) rfl rfl) ?_
            refine xl_pure rfl rfl rfl (pv_move (v := .int _ _) rfl rfl) ?_
            refine xl_pure rfl rfl rfl (pv_indexAddr_l rfl (sl_eq (hLe (by omega)).1) rfl (by omega)) ?_
            refine xl_pure rfl rfl rfl (pv_fieldAddr rfl rfl) ?_
            refine xl_light rfl rfl rfl (lv_load (v := .int _ _) rfl rfl (by exact ld_num (j := 1) (hLe (by omega)).2 hL.1 (by omega) (by decide))) ?_
            refine xl_dec rfl rfl rfl (pv_gtr rfl rfl rfl) (fun h5_28 => ?_) (fun h5_28 => ?_)
            · skip
              refine xl_pure rfl rfl rfl (pv_pick_f (v := .bool _) rfl rfl rfl) ?_
              refine xl_pure rfl rfl rfl (pv_move (v := .bool _) rfl rfl) ?_
              refine xl_skip rfl rfl rfl ?_
              refine xl_skip rfl rfl rfl ?_
              refine xl_skip rfl rfl rfl ?_
              refine xl_skip rfl rfl rfl ?_
              refine xl_skip rfl rfl rfl ?_
              refine xl_skip rfl rfl rfl ?_
              refine xl_skip rfl rfl rfl ?_
              refine xl_skip rfl rfl rfl ?_
              refine xl_pure rfl rfl rfl (pv_pick_t (v := .bool _) rfl rfl rfl) ?_
              refine xl_nil ?_
              refine xthen_normal ?_
              refine xc_cond_t rfl ?_
              refine xc_seq ?_
              refine xc_region ?_
              refine xl_pure rfl rfl rfl (pv_assign (v := .slice _ _ _) rfl rfl) ?_
              refine xl_pure rfl rfl rfl (pv_assign (v := .int _ _) rfl rfl) ?_
              refine xl_nil ?_
              refine xthen_normal ?_
              refine xc_ret ?_
              refine xthen_ret ?_
              refine xblock_ret ?_
              refine xthen_ret ?_
              refine xthen_ret ?_
              refine xblock_ret ?_
              refine xthen_ret ?_
              refine fin_ret (res2 (v := .slice _ _ _) (x := .int _ _) rfl rfl rfl) ?_
              refine ⟨1, .inl ⟨rfl, i, by omega, hok, ?_⟩, .inr ⟨by decide, rfl⟩, hX⟩
              unfold BadL
              first
                | omega
                | (cases hh : hasK (tb (lds L i)) [ow (gr L i), 0, 0, 0]
                   · have := find_none hh; omega
                   · exact .inr (.inr (.inr (.inr rfl))))
            · skip
              refine xl_pure rfl rfl rfl (pv_pick_f (v := .bool _) rfl rfl rfl) ?_
              refine xl_pure rfl rfl rfl (pv_move (v := .bool _) rfl rfl) ?_
              refine xl_pure rfl rfl rfl (pv_move (v := .slice _ _ _) rfl rfl) ?_
              refine xl_pure rfl rfl rfl (pv_move (v := .slice _ _ _) rfl rfl) ?_
              refine xl_pure rfl rfl rfl (pv_move (v := .int _ _) rfl rfl) ?_
              refine xl_pure rfl rfl rfl (pv_indexAddr_l rfl (sl_eq (hLe (by omega)).1) rfl (by omega)) ?_
              refine xl_pure rfl rfl rfl (pv_fieldAddr rfl rfl) ?_
              refine xl_light rfl rfl rfl (lv_load (v := .int _ _) rfl rfl (by exact ld_num (j := 0) (hLe (by omega)).2 hL.1 (by omega) (by decide))) ?_
              refine xl_heavy rfl rfl rfl (hv_call (g := 23) rfl rfl (c23 hQ hs1 (by omega) (ow (gr L i))) rfl) ?_
              rintro v5_37 H5_37 ⟨rfl, rfl⟩
              refine xl_dec rfl rfl rfl (pv_geq rfl rfl rfl) (fun h5_38 => ?_) (fun h5_38 => ?_)
              · skip
                refine xl_pure rfl rfl rfl (pv_pick_f (v := .bool _) rfl rfl rfl) ?_
                refine xl_nil ?_
                refine xthen_normal ?_
                refine xc_cond_t rfl ?_
                refine xc_seq ?_
                refine xc_region ?_
                refine xl_pure rfl rfl rfl (pv_assign (v := .slice _ _ _) rfl rfl) ?_
                refine xl_pure rfl rfl rfl (pv_assign (v := .int _ _) rfl rfl) ?_
                refine xl_nil ?_
                refine xthen_normal ?_
                refine xc_ret ?_
                refine xthen_ret ?_
                refine xblock_ret ?_
                refine xthen_ret ?_
                refine xthen_ret ?_
                refine xblock_ret ?_
                refine xthen_ret ?_
                refine fin_ret (res2 (v := .slice _ _ _) (x := .int _ _) rfl rfl rfl) ?_
                refine ⟨1, .inl ⟨rfl, i, by omega, hok, ?_⟩, .inr ⟨by decide, rfl⟩, hX⟩
                unfold BadL
                first
                  | omega
                  | (cases hh : hasK (tb (lds L i)) [ow (gr L i), 0, 0, 0]
                     · have := find_none hh; omega
                     · exact .inr (.inr (.inr (.inr rfl))))
              · skip
                refine xl_pure rfl rfl rfl (pv_pick_f (v := .bool _) rfl rfl rfl) ?_
                refine xl_nil ?_
                refine xthen_normal ?_
                refine xc_cond_f rfl ?_
                refine xc_skip ?_
                refine xthen_normal ?_
                have hnb : ¬ BadL (lds L i) (gr L i) := by
                  unfold BadL
                  cases hh : hasK (tb (lds L i)) [ow (gr L i), 0, 0, 0]
                  · intro h; rcases h with h | h | h | h | h <;> first | omega | cases h
                  · have := find_has hh; exfalso; omega
                have hnh : hasK (tb (lds L i)) [ow (gr L i), 0, 0, 0] = false := by exact eq_false_of_ne_true fun hh => hnb (.inr (.inr (.inr (.inr hh))))
                refine xc_region ?_
                refine xl_pure rfl rfl rfl (pv_move (v := .slice _ _ _) rfl rfl) ?_
                refine xl_pure rfl rfl rfl (pv_move (v := .slice _ _ _) rfl rfl) ?_
                refine xl_pure rfl rfl rfl (pv_move (v := .int _ _) rfl rfl) ?_
                refine xl_pure rfl rfl rfl (pv_indexAddr_l rfl (sl_eq (hLe (by omega)).1) rfl (by omega)) ?_
                refine xl_light rfl rfl rfl (lv_load (v := .agg _) rfl rfl (by exact ld_row' (hLe (by omega)).2 hL.1 (by omega))) ?_
                refine xl_heavy rfl rfl rfl (hv_call (g := 24) rfl rfl (c24r hQ hs1 (by omega) hc1 (gr L i) (hL.1.get (by omega)) hnh) rfl) ?_
                rintro v7_5 H7_5 ⟨a7_5, c7_5, rfl, hQ7_5, hc7_5, hE7_5⟩
                have hQ := hQ.ext hE7_5
                have hX := hX.trans hE7_5
                refine xl_pure rfl rfl rfl (pv_assign (v := .slice _ _ _) rfl rfl) ?_
                refine xl_nil ?_
                refine xblock_normal ?_
                refine xthen_normal ?_
                refine xc_region ?_
                refine xl_pure rfl rfl rfl (pv_move (v := .int _ _) rfl rfl) ?_
                refine xl_pure rfl rfl rfl (pv_add rfl rfl rfl (fit_i64 (by omega))) ?_
                refine xl_pure rfl rfl rfl (pv_assign (v := .int _ _) rfl rfl) ?_
                refine xl_nil ?_
                refine xthen_normal ?_
                exact ⟨(i + 1, _, _), ⟨rfl, slv (by rw [lds_take (by omega)]), rfl, trivial⟩, ⟨by (try simp only); omega, hok.next hnb, by rw [lds_take (by omega)]; exact hQ7_5, by rw [lds_take (by omega)]; exact hc7_5, hX⟩, by (try simp only); omega⟩
    · skip
      refine xl_nil ?_
      refine xthen_normal ?_
      refine xc_cond_f rfl ?_
      refine xc_exit ?_
      refine xthen_exit ?_
      refine xthen_exit ?_
      refine xblock_same ?_
      refine xthen_normal ?_
      refine xc_seq ?_
      obtain rfl : i = L.length := by omega
      refine xc_region ?_
      refine xl_pure rfl rfl rfl (pv_assign (v := .int _ _) rfl rfl) ?_
      refine xl_nil ?_
      refine xthen_normal ?_
      refine xc_seq ?_
      refine xc_seq ?_
      refine xc_region ?_
      refine xl_pure rfl rfl rfl (pv_assign (v := .int _ _) rfl rfl) ?_
      refine xl_nil ?_
      refine xthen_normal ?_
      refine xc_block ?_
      refine xc_loop (τ := Nat) (fun t => [(4, .slice a1 (lds L L.length).length c1), (6, .int .i64 (tot ((lds L L.length).take t))), (7, .int .i64 (t : Nat))]) (fun t H' => (t ≤ (lds L L.length).length) ∧ (tot ((lds L L.length).take t) ≤ 1152921504606846976) ∧ (RowsT H' 60 2 a1 (lds L L.length)) ∧ (Ext H H')) (fun t H' => (lds L L.length).length - t) 0 ?_ ?_ ?_
      · exact ⟨rfl, rfl, rfl, trivial⟩
      · skip
        exact ⟨Nat.zero_le _, (by decide : (0 : Int) ≤ 1152921504606846976), hQ, hX⟩
      · intro σ
        clear hX hQ
        rintro j Hl10 ⟨hj, hm, hQ, hX⟩
        replace hj : j ≤ (lds L L.length).length := hj
        replace hm : tot ((lds L L.length).take j) ≤ 1152921504606846976 := hm
        replace hQ : RowsT Hl10 60 2 a1 (lds L L.length) := hQ
        replace hX : Ext H Hl10 := hX
        obtain ⟨bq, ofq, hQe⟩ := hQ.at
        show XC _ _ _ (upds σ [(4, .slice a1 (lds L L.length).length c1), (6, .int .i64 (tot ((lds L L.length).take j))), (7, .int .i64 (j : Nat))]) _
        refine xc_seq ?_
        refine xc_seq ?_
        refine xc_region ?_
        refine xl_pure rfl rfl rfl (pv_move (v := .int _ _) rfl rfl) ?_
        refine xl_pure rfl rfl rfl (pv_move (v := .slice _ _ _) rfl rfl) ?_
        refine xl_pure rfl rfl rfl (pv_len_l rfl rfl) ?_
        refine xl_dec rfl rfl rfl (pv_lss rfl rfl rfl) (fun h10_3 => ?_) (fun h10_3 => ?_)
        · skip
          refine xl_nil ?_
          refine xthen_normal ?_
          refine xc_cond_t rfl ?_
          refine xc_skip ?_
          refine xthen_normal ?_
          refine xc_seq ?_
          refine xc_block ?_
          refine xc_seq ?_
          refine xc_seq ?_
          have ht0 := tot_nonneg (x := (lds L L.length).take j) (fun r hr => hp1 r (List.mem_of_mem_take hr))
          refine xc_region ?_
          refine xl_pure rfl rfl rfl (pv_move (v := .slice _ _ _) rfl rfl) ?_
          refine xl_pure rfl rfl rfl (pv_move (v := .int _ _) rfl rfl) ?_
          refine xl_pure rfl rfl rfl (pv_indexAddr_l rfl (sl_eq (hQe (by omega)).1) rfl (by omega)) ?_
          refine xl_pure rfl rfl rfl (pv_fieldAddr rfl rfl) ?_
          refine xl_light rfl rfl rfl (lv_load (v := .int _ _) rfl rfl (by exact ld_num (j := 1) (hQe (by omega)).2 hw1 (by omega) (by decide))) ?_
          refine xl_pure rfl rfl rfl (pv_move (v := .int _ _) rfl rfl) ?_
          refine xl_pure rfl rfl rfl (pv_sub rfl rfl rfl (fit_i64 (by omega))) ?_
          refine xl_dec rfl rfl rfl (pv_gtr rfl rfl rfl) (fun h12_7 => ?_) (fun h12_7 => ?_)
          · skip
            refine xl_nil ?_
            refine xthen_normal ?_
            refine xc_cond_t rfl ?_
            refine xc_seq ?_
            have hjl : j < (lds L L.length).length := by omega
            have hs2 := tot_split (x := (lds L L.length)) (i := j + 1)
            have ht2 := tot_take hjl
            have hn2 := tot_nonneg (x := (lds L L.length).drop (j + 1)) (fun r hr => hp1 r (List.mem_of_mem_drop hr))
            refine xc_region ?_
            refine xl_pure rfl rfl rfl (pv_assign (v := .slice _ _ _) rfl rfl) ?_
            refine xl_pure rfl rfl rfl (pv_assign (v := .int _ _) rfl rfl) ?_
            refine xl_nil ?_
            refine xthen_normal ?_
            refine xc_ret ?_
            refine xthen_ret ?_
            refine xblock_ret ?_
            refine xthen_ret ?_
            refine xthen_ret ?_
            refine xblock_ret ?_
            refine xthen_ret ?_
            refine fin_ret (res2 (v := .slice _ _ _) (x := .int _ _) rfl rfl rfl) ?_
            exact ⟨5, .inr ⟨hok, .inl ⟨rfl, by have : (gr (lds L L.length) (j : Int).toNat).getD 1 0 = mo (gr (lds L L.length) j) := rfl; omega⟩⟩, .inr ⟨by decide, rfl⟩, hX⟩
          · skip
            refine xl_nil ?_
            refine xthen_normal ?_
            refine xc_cond_f rfl ?_
            refine xc_skip ?_
            refine xthen_normal ?_
            have hjl : j < (lds L L.length).length := by omega
            have ht1 : tot ((lds L L.length).take (j + 1)) = tot ((lds L L.length).take j) + (gr (lds L L.length) (j : Int).toNat).getD 1 0 := tot_take hjl
            have ht3 : 0 ≤ (gr (lds L L.length) (j : Int).toNat).getD 1 0 := hp1 _ (gr_mem hjl)
            refine xc_region ?_
            refine xl_pure rfl rfl rfl (pv_move (v := .int _ _) rfl rfl) ?_
            refine xl_pure rfl rfl rfl (pv_move (v := .slice _ _ _) rfl rfl) ?_
            refine xl_pure rfl rfl rfl (pv_move (v := .int _ _) rfl rfl) ?_
            refine xl_pure rfl rfl rfl (pv_indexAddr_l rfl (sl_eq (hQe (by omega)).1) rfl (by omega)) ?_
            refine xl_pure rfl rfl rfl (pv_fieldAddr rfl rfl) ?_
            refine xl_light rfl rfl rfl (lv_load (v := .int _ _) rfl rfl (by exact ld_num (j := 1) (hQe (by omega)).2 hw1 (by omega) (by decide))) ?_
            refine xl_pure rfl rfl rfl (pv_add rfl rfl rfl (fit_i64 (by omega))) ?_
            refine xl_pure rfl rfl rfl (pv_assign (v := .int _ _) rfl rfl) ?_
            refine xl_nil ?_
            refine xblock_normal ?_
            refine xthen_normal ?_
            refine xc_region ?_
            refine xl_pure rfl rfl rfl (pv_move (v := .int _ _) rfl rfl) ?_
            refine xl_pure rfl rfl rfl (pv_add rfl rfl rfl (fit_i64 (by omega))) ?_
            refine xl_pure rfl rfl rfl (pv_assign (v := .int _ _) rfl rfl) ?_
            refine xl_nil ?_
            refine xthen_normal ?_
            exact ⟨j + 1, ⟨rfl, iv (tot_take (by omega)).symm, rfl, trivial⟩, ⟨by (try simp only); omega, by omega, hQ, hX⟩, by (try simp only); omega⟩
        · skip
          refine xl_nil ?_
          refine xthen_normal ?_
          refine xc_cond_f rfl ?_
          refine xc_exit ?_
          refine xthen_exit ?_
          refine xthen_exit ?_
          refine xblock_same ?_
          refine xthen_normal ?_
          refine xc_seq ?_
          refine xc_region ?_
          refine xl_pure rfl rfl rfl (pv_move (v := .slice _ _ _) rfl rfl) ?_
          refine xl_pure rfl rfl rfl (pv_assign (v := .slice _ _ _) rfl rfl) ?_
          refine xl_pure rfl rfl rfl (pv_assign (v := .int _ _) rfl rfl) ?_
          refine xl_nil ?_
          refine xthen_normal ?_
          refine xc_ret ?_
          refine fin_ret (res2 (v := .slice _ _ _) (x := .int _ _) rfl rfl rfl) ?_
          have hjl : j = (lds L L.length).length := by omega
          rw [hjl, List.take_length] at hm
          exact ⟨0, .inr ⟨hok, .inr ⟨rfl, hm⟩⟩, .inl ⟨rfl, _, _, rfl, hQ, hc1⟩, hX⟩
end Go.XG
