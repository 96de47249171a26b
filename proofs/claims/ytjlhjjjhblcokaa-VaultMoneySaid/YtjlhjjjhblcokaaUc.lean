/-
  Walks of the seat's functions over the logic XG: each function, what it computes. Printed by a program out of wip/walks.py.
-/
import Derived.Test.YtjlhjjjhblcokaaI
import Derived.Test.YtjlhjjjhblcokaaXs
import Derived.Test.YtjlhjjjhblcokaaTo
import Derived.Test.YtjlhjjjhblcokaaTa
import Derived.Test.YtjlhjjjhblcokaaTb
import Derived.Test.YtjlhjjjhblcokaaKb
import Derived.Test.YtjlhjjjhblcokaaBa
import Derived.Test.YtjlhjjjhblcokaaBb
import Derived.Test.YtjlhjjjhblcokaaBc
import Derived.Test.YtjlhjjjhblcokaaKp
import Derived.Test.YtjlhjjjhblcokaaUa
import Derived.Test.YtjlhjjjhblcokaaUb
namespace Go.XG.Pu
open Go.Proofs
set_option maxRecDepth 20000
set_option maxHeartbeats 4000000
theorem c26 {O : Outer} {H : Heap} {al : Option Addr} {cl : Nat} {L : List (List Int)} (hL : Rows H al 2 L) (hLl : L.length ≤ 1000) :
    FnC Try.prog 26 #[.slice al L.length cl] O H (fun v H' => ∃ e, Ldr L e ∧ (e = 0 ∧ (∃ a' c', v = .tuple #[.slice a' (lds L L.length).length c', .int .i64 0] ∧ RowsT H' 122 2 a' (lds L L.length) ∧ (lds L L.length).length ≤ c') ∨ e ≠ 0 ∧ v = .tuple #[.slice none 0 0, .int .i64 e]) ∧ Ext H H') := by
  refine fn_enter (A := [.slice al L.length cl]) Try.func26 rfl rfl ?_
  have hX := Ext.refl H
  refine xc_seq ?_
  refine xc_region ?_
  refine xl_pure rfl rfl rfl (pv_assign (v := .slice _ _ _) rfl rfl) ?_
  refine xl_pure rfl rfl rfl (pv_assign (v := .int _ _) rfl rfl) ?_
  refine xl_nil ?_
  refine xthen_normal ?_
  refine xc_seq ?_
  refine xc_region ?_
  refine xl_pure rfl rfl rfl (pv_assign (v := .slice _ _ _) rfl rfl) ?_
  refine xl_nil ?_
  refine xthen_normal ?_
  refine xc_seq ?_
  refine xc_seq ?_
  refine xc_region ?_
  refine xl_pure rfl rfl rfl (pv_assign (v := .int _ _) rfl rfl) ?_
  refine xl_nil ?_
  refine xthen_normal ?_
  refine xc_block ?_
  refine xc_loop (τ := Nat × Option Addr × Nat) (fun t => [(0, .slice al L.length cl), (4, .slice t.2.1 (lds L t.1).length t.2.2), (5, .int .i64 (t.1 : Nat))]) (fun t H' => (t.1 ≤ L.length) ∧ (OkL L t.1) ∧ (RowsT H' 122 2 t.2.1 (lds L t.1)) ∧ ((lds L t.1).length ≤ t.2.2) ∧ (Ext H H')) (fun t H' => L.length - t.1) (0, none, 0) ?_ ?_ ?_
  · exact ⟨rfl, rfl, rfl, trivial⟩
  · skip
    exact ⟨Nat.zero_le _, fun j hj => absurd hj (by omega), RowsT.nil, Nat.le_refl _, hX⟩
  · intro σ
    clear hX
    rintro ⟨i, a1, c1⟩ Hl3 ⟨hi, hok, hQ, hc1, hX⟩
    replace hi : i ≤ L.length := hi
    replace hok : OkL L i := hok
    replace hQ : RowsT Hl3 122 2 a1 (lds L i) := hQ
    replace hc1 : (lds L i).length ≤ c1 := hc1
    replace hX : Ext H Hl3 := hX
    obtain ⟨hw1, hs1, hp1, hq1, hl1⟩ := lds_ok hi hok
    obtain ⟨bl, ofl, hLe⟩ := (hL.ext hX).at'
    show XC _ _ _ (upds σ [(0, .slice al L.length cl), (4, .slice a1 (lds L i).length c1), (5, .int .i64 (i : Nat))]) _
    refine xc_seq ?_
    refine xc_seq ?_
    refine xc_region ?_
    refine xl_pure rfl rfl rfl (pv_move (v := .int _ _) rfl rfl) ?_
    refine xl_pure rfl rfl rfl (pv_move (v := .slice _ _ _) rfl rfl) ?_
    refine xl_pure rfl rfl rfl (pv_len_l rfl rfl) ?_
    refine xl_dec rfl rfl rfl (pv_lss rfl rfl rfl) (fun h3_3 => ?_) (fun h3_3 => ?_)
    · skip
      refine xl_nil ?_
      refine xthen_normal ?_
      refine xc_cond_t rfl ?_
      refine xc_skip ?_
      refine xthen_normal ?_
      refine xc_seq ?_
      refine xc_block ?_
      refine xc_seq ?_
      refine xc_seq ?_
      have q0 : (gr L (i : Int).toNat).getD 0 0 = ow (gr L i) := rfl
      have q1 : (gr L (i : Int).toNat).getD 1 0 = mo (gr L i) := rfl
      refine xc_region ?_
      refine xl_pure rfl rfl rfl (pv_move (v := .slice _ _ _) rfl rfl) ?_
      refine xl_pure rfl rfl rfl (pv_move (v := .int _ _) rfl rfl) ?_
      refine xl_pure rfl rfl rfl (pv_indexAddr_l rfl (sl_eq (hLe (by omega)).1) rfl (by omega)) ?_
      refine xl_pure rfl rfl rfl (pv_fieldAddr rfl rfl) ?_
      refine xl_light rfl rfl rfl (lv_load (v := .int _ _) rfl rfl (by exact ld_num (j := 0) (hLe (by omega)).2 hL.1 (by omega) (by decide))) ?_
      refine xl_dec rfl rfl rfl (pv_lss rfl rfl rfl) (fun h5_5 => ?_) (fun h5_5 => ?_)
      · skip
        refine xl_pure rfl rfl rfl (pv_move (v := .bool _) rfl rfl) ?_
        refine xl_skip rfl rfl rfl ?_
        refine xl_skip rfl rfl rfl ?_
        refine xl_skip rfl rfl rfl ?_
        refine xl_skip rfl rfl rfl ?_
        refine xl_skip rfl rfl rfl ?_
        refine xl_skip rfl rfl rfl ?_
        refine xl_pure rfl rfl rfl (pv_pick_t (v := .bool _) rfl rfl rfl) ?_
        refine xl_pure rfl rfl rfl (pv_move (v := .bool _) rfl rfl) ?_
        refine xl_skip rfl rfl rfl ?_
        refine xl_skip rfl rfl rfl ?_
        refine xl_skip rfl rfl rfl ?_
        refine xl_skip rfl rfl rfl ?_
        refine xl_skip rfl rfl rfl ?_
        refine xl_skip rfl rfl rfl ?_
        refine xl_pure rfl rfl rfl (pv_pick_t (v := .bool _) rfl rfl rfl) ?_
        refine xl_pure rfl rfl rfl (pv_move (v := .bool _) rfl rfl) ?_
        refine xl_skip rfl rfl rfl ?_
        refine xl_skip rfl rfl rfl ?_
        refine xl_skip rfl rfl rfl ?_
        refine xl_skip rfl rfl rfl ?_
        refine xl_skip rfl rfl rfl ?_
        refine xl_skip rfl rfl rfl ?_
        refine xl_pure rfl rfl rfl (pv_pick_t (v := .bool _) rfl rfl rfl) ?_
        refine xl_pure rfl rfl rfl (pv_move (v := .bool _) rfl rfl) ?_
        refine xl_skip rfl rfl rfl ?_
        refine xl_skip rfl rfl rfl ?_
        refine xl_skip rfl rfl rfl ?_
        refine xl_skip rfl rfl rfl ?_
        refine xl_skip rfl rfl rfl ?_
        refine xl_skip rfl rfl rfl ?_
        refine xl_skip rfl rfl rfl ?_
        refine xl_skip rfl rfl rfl ?_
        refine xl_pure rfl rfl rfl (pv_pick_t (v := .bool _) rfl rfl rfl) ?_
        refine xl_nil ?_
        refine xthen_normal ?_
        refine xc_cond_t rfl ?_
        refine xc_seq ?_
        refine xc_region ?_
        refine xl_pure rfl rfl rfl (pv_assign (v := .slice _ _ _) rfl rfl) ?_
        refine xl_pure rfl rfl rfl (pv_assign (v := .int _ _) rfl rfl) ?_
        refine xl_nil ?_
        refine xthen_normal ?_
        refine xc_ret ?_
        refine xthen_ret ?_
        refine xblock_ret ?_
        refine xthen_ret ?_
        refine xthen_ret ?_
        refine xblock_ret ?_
        refine xthen_ret ?_
        refine fin_ret (res2 (v := .slice _ _ _) (x := .int _ _) rfl rfl rfl) ?_
        refine ⟨1, .inl ⟨rfl, i, by omega, hok, ?_⟩, .inr ⟨by decide, rfl⟩, hX⟩
        unfold BadL
        first
          | omega
          | (cases hh : hasK (tb (lds L i)) [ow (gr L i), 0, 0, 0]
             · have := find_none hh; omega
             · exact .inr (.inr (.inr (.inr rfl))))
      · skip
        refine xl_pure rfl rfl rfl (pv_move (v := .bool _) rfl rfl) ?_
        refine xl_pure rfl rfl rfl (pv_move (v := .slice _ _ _) rfl rfl) ?_
        refine xl_pure rfl rfl rfl (pv_move (v := .int _ _) rfl rfl) ?_
        refine xl_pure rfl rfl rfl (pv_indexAddr_l rfl (sl_eq (hLe (by omega)).1) rfl (by omega)) ?_
        refine xl_pure rfl rfl rfl (pv_fieldAddr rfl rfl) ?_
        refine xl_light rfl rfl rfl (lv_load (v := .int _ _) rfl rfl (by exact ld_num (j := 0) (hLe (by omega)).2 hL.1 (by omega) (by decide))) ?_
        refine xl_dec rfl rfl rfl (pv_gtr rfl rfl rfl) (fun h5_12 => ?_) (fun h5_12 => ?_)
        · skip
          refine xl_pure rfl rfl rfl (pv_pick_f (v := .bool _) rfl rfl rfl) ?_
          refine xl_pure rfl rfl rfl (pv_move (v := .bool _) rfl rfl) ?_
          refine xl_skip rfl rfl rfl ?_
          refine xl_skip rfl rfl rfl ?_
          refine xl_skip rfl rfl rfl ?_
          refine xl_skip rfl rfl rfl ?_
          refine xl_skip rfl rfl rfl ?_
          refine xl_skip rfl rfl rfl ?_
          refine xl_pure rfl rfl rfl (pv_pick_t (v := .bool _) rfl rfl rfl) ?_
          refine xl_pure rfl rfl rfl (pv_move (v := .bool _) rfl rfl) ?_
          refine xl_skip rfl rfl rfl ?_
          refine xl_skip rfl rfl rfl ?_
          refine xl_skip rfl rfl rfl ?_
          refine xl_skip rfl rfl rfl ?_
          refine xl_skip rfl rfl rfl ?_
          refine xl_skip rfl rfl rfl ?_
          refine xl_pure rfl rfl rfl (pv_pick_t (v := .bool _) rfl rfl rfl) ?_
          refine xl_pure rfl rfl rfl (pv_move (v := .bool _) rfl rfl) ?_
          refine xl_skip rfl rfl rfl ?_
          refine xl_skip rfl rfl rfl ?_
          refine xl_skip rfl rfl rfl ?_
          refine xl_skip rfl rfl rfl ?_
          refine xl_skip rfl rfl rfl ?_
          refine xl_skip rfl rfl rfl ?_
          refine xl_skip rfl rfl rfl ?_
          refine xl_skip rfl rfl rfl ?_
          refine xl_pure rfl rfl rfl (pv_pick_t (v := .bool _) rfl rfl rfl) ?_
          refine xl_nil ?_
          refine xthen_normal ?_
          refine xc_cond_t rfl ?_
          refine xc_seq ?_
          refine xc_region ?_
          refine xl_pure rfl rfl rfl (pv_assign (v := .slice _ _ _) rfl rfl) ?_
          refine xl_pure rfl rfl rfl (pv_assign (v := .int _ _) rfl rfl) ?_
          refine xl_nil ?_
          refine xthen_normal ?_
          refine xc_ret ?_
          refine xthen_ret ?_
          refine xblock_ret ?_
          refine xthen_ret ?_
          refine xthen_ret ?_
          refine xblock_ret ?_
          refine xthen_ret ?_
          refine fin_ret (res2 (v := .slice _ _ _) (x := .int _ _) rfl rfl rfl) ?_
          refine ⟨1, .inl ⟨rfl, i, by omega, hok, ?_⟩, .inr ⟨by decide, rfl⟩, hX⟩
          unfold BadL
          first
            | omega
            | (cases hh : hasK (tb (lds L i)) [ow (gr L i), 0, 0, 0]
               · have := find_none hh; omega
               · exact .inr (.inr (.inr (.inr rfl))))
        · skip
          refine xl_pure rfl rfl rfl (pv_pick_f (v := .bool _) rfl rfl rfl) ?_
          refine xl_pure rfl rfl rfl (pv_move (v := .bool _) rfl rfl) ?_
          refine xl_pure rfl rfl rfl (pv_move (v := .slice _ _ _) rfl rfl) ?_
          refine xl_pure rfl rfl rfl (pv_move (v := .int _ _) rfl rfl) ?_
          refine xl_pure rfl rfl rfl (pv_indexAddr_l rfl (sl_eq (hLe (by omega)).1) rfl (by omega)) ?_
          refine xl_pure rfl rfl rfl (pv_fieldAddr rfl rfl) ?_
          refine xl_light rfl rfl rfl (lv_load (v := .int _ _) rfl rfl (by exact ld_num (j := 1) (hLe (by omega)).2 hL.1 (by omega) (by decide))) ?_
          refine xl_dec rfl rfl rfl (pv_lss rfl rfl rfl) (fun h5_20 => ?_) (fun h5_20 => ?_)
          · skip
            refine xl_pure rfl rfl rfl (pv_pick_f (v := .bool _) rfl rfl rfl) ?_
            refine xl_pure rfl rfl rfl (pv_move (v := .bool _) rfl rfl) ?_
            refine xl_skip rfl rfl rfl ?_
            refine xl_skip rfl rfl rfl ?_
            refine xl_skip rfl rfl rfl ?_
            refine xl_skip rfl rfl rfl ?_
            refine xl_skip rfl rfl rfl ?_
            refine xl_skip rfl rfl rfl ?_
            refine xl_pure rfl rfl rfl (pv_pick_t (v := .bool _) rfl rfl rfl) ?_
            refine xl_pure rfl rfl rfl (pv_move (v := .bool _) rfl rfl) ?_
            refine xl_skip rfl rfl rfl ?_
            refine xl_skip rfl rfl rfl ?_
            refine xl_skip rfl rfl rfl ?_
            refine xl_skip rfl rfl rfl ?_
            refine xl_skip rfl rfl rfl ?_
            refine xl_skip rfl rfl rfl ?_
            refine xl_skip rfl rfl rfl ?_
            refine xl_skip rfl rfl rfl ?_
            refine xl_pure rfl rfl rfl (pv_pick_t (v := .bool _) rfl rfl rfl) ?_
            refine xl_nil ?_
            refine xthen_normal ?_
            refine xc_cond_t rfl ?_
            refine xc_seq ?_
            refine xc_region ?_
            refine xl_pure rfl rfl rfl (pv_assign (v := .slice _ _ _) rfl rfl) ?_
            refine xl_pure rfl rfl rfl (pv_assign (v := .int _ _) rfl rfl) ?_
            refine xl_nil ?_
            refine xthen_normal ?_
            refine xc_ret ?_
            refine xthen_ret ?_
            refine xblock_ret ?_
            refine xthen_ret ?_
            refine xthen_ret ?_
            refine xblock_ret ?_
            refine xthen_ret ?_
            refine fin_ret (res2 (v := .slice _ _ _) (x := .int _ _) rfl rfl rfl) ?_
            refine ⟨1, .inl ⟨rfl, i, by omega, hok, ?_⟩, .inr ⟨by decide, rfl⟩, hX⟩
            unfold BadL
            first
              | omega
              | (cases hh : hasK (tb (lds L i)) [ow (gr L i), 0, 0, 0]
                 · have := find_none hh; omega
                 · exact .inr (.inr (.inr (.inr rfl))))
          · skip
            refine xl_pure rfl rfl rfl (pv_pick_f (v := .bool _) rfl rfl rfl) ?_
            refine xl_pure rfl rfl rfl (pv_move (v := .bool _) rfl rfl) ?_
            refine xl_pure rfl rfl rfl (pv_move (v := .slice _ _ _) rfl rfl) ?_
            refine xl_pure rfl rfl rfl (pv_move (v := .int _ _) rfl rfl) ?_
            refine xl_pure rfl rfl rfl (pv_indexAddr_l rfl (sl_eq (hLe (by omega)).1) rfl (by omega)) ?_
            refine xl_pure rfl rfl rfl (pv_fieldAddr rfl rfl) ?_
            refine xl_light rfl rfl rfl (lv_load (v := .int _ _) rfl rfl (by exact ld_num (j := 1) (hLe (by omega)).2 hL.1 (by omega) (by decide))) ?_
            refine xl_dec rfl rfl rfl (pv_gtr rfl rfl rfl) (fun h5_28 => ?_) (fun h5_28 => ?_)
            · skip
              refine xl_pure rfl rfl rfl (pv_pick_f (v := .bool _) rfl rfl rfl) ?_
              refine xl_pure rfl rfl rfl (pv_move (v := .bool _) rfl rfl) ?_
              refine xl_skip rfl rfl rfl ?_
              refine xl_skip rfl rfl rfl ?_
              refine xl_skip rfl rfl rfl ?_
              refine xl_skip rfl rfl rfl ?_
              refine xl_skip rfl rfl rfl ?_
              refine xl_skip rfl rfl rfl ?_
              refine xl_skip rfl rfl rfl ?_
              refine xl_skip rfl rfl rfl ?_
              refine xl_pure rfl rfl rfl (pv_pick_t (v := .bool _) rfl rfl rfl) ?_
              refine xl_nil ?_
              refine xthen_normal ?_
              refine xc_cond_t rfl ?_
              refine xc_seq ?_
              refine xc_region ?_
              refine xl_pure rfl rfl rfl (pv_assign (v := .slice _ _ _) rfl rfl) ?_
              refine xl_pure rfl rfl rfl (pv_assign (v := .int _ _) rfl rfl) ?_
              refine xl_nil ?_
              refine xthen_normal ?_
              refine xc_ret ?_
              refine xthen_ret ?_
              refine xblock_ret ?_
              refine xthen_ret ?_
              refine xthen_ret ?_
              refine xblock_ret ?_
              refine xthen_ret ?_
              refine fin_ret (res2 (v := .slice _ _ _) (x := .int _ _) rfl rfl rfl) ?_
              refine ⟨1, .inl ⟨rfl, i, by omega, hok, ?_⟩, .inr ⟨by decide, rfl⟩, hX⟩
              unfold BadL
              first
                | omega
                | (cases hh : hasK (tb (lds L i)) [ow (gr L i), 0, 0, 0]
                   · have := find_none hh; omega
                   · exact .inr (.inr (.inr (.inr rfl))))
            · skip
              refine xl_pure rfl rfl rfl (pv_pick_f (v := .bool _) rfl rfl rfl) ?_
              refine xl_pure rfl rfl rfl (pv_move (v := .bool _) rfl rfl) ?_
              refine xl_pure rfl rfl rfl (pv_move (v := .slice _ _ _) rfl rfl) ?_
              refine xl_pure rfl rfl rfl (pv_move (v := .slice _ _ _) rfl rfl) ?_
              refine xl_pure rfl rfl rfl (pv_move (v := .int _ _) rfl rfl) ?_
              refine xl_pure rfl rfl rfl (pv_indexAddr_l rfl (sl_eq (hLe (by omega)).1) rfl (by omega)) ?_
              refine xl_pure rfl rfl rfl (pv_fieldAddr rfl rfl) ?_
              refine xl_light rfl rfl rfl (lv_load (v := .int _ _) rfl rfl (by exact ld_num (j := 0) (hLe (by omega)).2 hL.1 (by omega) (by decide))) ?_
              refine xl_heavy rfl rfl rfl (hv_call (g := 65) rfl rfl (c65 hQ hs1 (by omega) (ow (gr L i))) rfl) ?_
              rintro v5_37 H5_37 ⟨rfl, rfl⟩
              refine xl_dec rfl rfl rfl (pv_geq rfl rfl rfl) (fun h5_38 => ?_) (fun h5_38 => ?_)
              · skip
                refine xl_pure rfl rfl rfl (pv_pick_f (v := .bool _) rfl rfl rfl) ?_
                refine xl_nil ?_
                refine xthen_normal ?_
                refine xc_cond_t rfl ?_
                refine xc_seq ?_
                refine xc_region ?_
                refine xl_pure rfl rfl rfl (pv_assign (v := .slice _ _ _) rfl rfl) ?_
                refine xl_pure rfl rfl rfl (pv_assign (v := .int _ _) rfl rfl) ?_
                refine xl_nil ?_
                refine xthen_normal ?_
                refine xc_ret ?_
                refine xthen_ret ?_
                refine xblock_ret ?_
                refine xthen_ret ?_
                refine xthen_ret ?_
                refine xblock_ret ?_
                refine xthen_ret ?_
                refine fin_ret (res2 (v := .slice _ _ _) (x := .int _ _) rfl rfl rfl) ?_
                refine ⟨1, .inl ⟨rfl, i, by omega, hok, ?_⟩, .inr ⟨by decide, rfl⟩, hX⟩
                unfold BadL
                first
                  | omega
                  | (cases hh : hasK (tb (lds L i)) [ow (gr L i), 0, 0, 0]
                     · have := find_none hh; omega
                     · exact .inr (.inr (.inr (.inr rfl))))
              · skip
                refine xl_pure rfl rfl rfl (pv_pick_f (v := .bool _) rfl rfl rfl) ?_
                refine xl_nil ?_
                refine xthen_normal ?_
                refine xc_cond_f rfl ?_
                refine xc_skip ?_
                refine xthen_normal ?_
                have hnb : ¬ BadL (lds L i) (gr L i) := by
                  unfold BadL
                  cases hh : hasK (tb (lds L i)) [ow (gr L i), 0, 0, 0]
                  · intro h; rcases h with h | h | h | h | h <;> first | omega | cases h
                  · have := find_has hh; exfalso; omega
                have hnh : hasK (tb (lds L i)) [ow (gr L i), 0, 0, 0] = false := by exact eq_false_of_ne_true fun hh => hnb (.inr (.inr (.inr (.inr hh))))
                refine xc_region ?_
                refine xl_pure rfl rfl rfl (pv_move (v := .slice _ _ _) rfl rfl) ?_
                refine xl_pure rfl rfl rfl (pv_move (v := .slice _ _ _) rfl rfl) ?_
                refine xl_pure rfl rfl rfl (pv_move (v := .int _ _) rfl rfl) ?_
                refine xl_pure rfl rfl rfl (pv_indexAddr_l rfl (sl_eq (hLe (by omega)).1) rfl (by omega)) ?_
                refine xl_light rfl rfl rfl (lv_load (v := .agg _) rfl rfl (by exact ld_row' (hLe (by omega)).2 hL.1 (by omega))) ?_
                refine xl_heavy rfl rfl rfl (hv_call (g := 66) rfl rfl (c66r hQ hs1 (by omega) hc1 (gr L i) (hL.1.get (by omega)) hnh) rfl) ?_
                rintro v7_5 H7_5 ⟨a7_5, c7_5, rfl, hQ7_5, hc7_5, hE7_5⟩
                have hQ := hQ.ext hE7_5
                have hX := hX.trans hE7_5
                refine xl_pure rfl rfl rfl (pv_assign (v := .slice _ _ _) rfl rfl) ?_
                refine xl_nil ?_
                refine xblock_normal ?_
                refine xthen_normal ?_
                refine xc_region ?_
                refine xl_pure rfl rfl rfl (pv_move (v := .int _ _) rfl rfl) ?_
                refine xl_pure rfl rfl rfl (pv_add rfl rfl rfl (fit_i64 (by omega))) ?_
                refine xl_pure rfl rfl rfl (pv_assign (v := .int _ _) rfl rfl) ?_
                refine xl_nil ?_
                refine xthen_normal ?_
                exact ⟨(i + 1, _, _), ⟨rfl, slv (by rw [lds_take (by omega)]), rfl, trivial⟩, ⟨by (try simp only); omega, hok.next hnb, by rw [lds_take (by omega)]; exact hQ7_5, by rw [lds_take (by omega)]; exact hc7_5, hX⟩, by (try simp only); omega⟩
    · skip
      refine xl_nil ?_
      refine xthen_normal ?_
      refine xc_cond_f rfl ?_
      refine xc_exit ?_
      refine xthen_exit ?_
      refine xthen_exit ?_
      refine xblock_same ?_
      refine xthen_normal ?_
      refine xc_seq ?_
      obtain rfl : i = L.length := by omega
      refine xc_region ?_
      refine xl_pure rfl rfl rfl (pv_assign (v := .int _ _) rfl rfl) ?_
      refine xl_nil ?_
      refine xthen_normal ?_
      refine xc_seq ?_
      refine xc_seq ?_
      refine xc_region ?_
      refine xl_pure rfl rfl rfl (pv_assign (v := .int _ _) rfl rfl) ?_
      refine xl_nil ?_
      refine xthen_normal ?_
      refine xc_block ?_
      refine xc_loop (τ := Nat) (fun t => [(4, .slice a1 (lds L L.length).length c1), (6, .int .i64 (tot ((lds L L.length).take t))), (7, .int .i64 (t : Nat))]) (fun t H' => (t ≤ (lds L L.length).length) ∧ (tot ((lds L L.length).take t) ≤ 1152921504606846976) ∧ (RowsT H' 122 2 a1 (lds L L.length)) ∧ (Ext H H')) (fun t H' => (lds L L.length).length - t) 0 ?_ ?_ ?_
      · exact ⟨rfl, rfl, rfl, trivial⟩
      · skip
        exact ⟨Nat.zero_le _, (by decide : (0 : Int) ≤ 1152921504606846976), hQ, hX⟩
      · intro σ
        clear hX hQ
        rintro j Hl10 ⟨hj, hm, hQ, hX⟩
        replace hj : j ≤ (lds L L.length).length := hj
        replace hm : tot ((lds L L.length).take j) ≤ 1152921504606846976 := hm
        replace hQ : RowsT Hl10 122 2 a1 (lds L L.length) := hQ
        replace hX : Ext H Hl10 := hX
        obtain ⟨bq, ofq, hQe⟩ := hQ.at
        show XC _ _ _ (upds σ [(4, .slice a1 (lds L L.length).length c1), (6, .int .i64 (tot ((lds L L.length).take j))), (7, .int .i64 (j : Nat))]) _
        refine xc_seq ?_
        refine xc_seq ?_
        refine xc_region ?_
        refine xl_pure rfl rfl rfl (pv_move (v := .int _ _) rfl rfl) ?_
        refine xl_pure rfl rfl rfl (pv_move (v := .slice _ _ _) rfl rfl) ?_
        refine xl_pure rfl rfl rfl (pv_len_l rfl rfl) ?_
        refine xl_dec rfl rfl rfl (pv_lss rfl rfl rfl) (fun h10_3 => ?_) (fun h10_3 => ?_)
        · skip
          refine xl_nil ?_
          refine xthen_normal ?_
          refine xc_cond_t rfl ?_
          refine xc_skip ?_
          refine xthen_normal ?_
          refine xc_seq ?_
          refine xc_block ?_
          refine xc_seq ?_
          refine xc_seq ?_
          have ht0 := tot_nonneg (x := (lds L L.length).take j) (fun r hr => hp1 r (List.mem_of_mem_take hr))
          refine xc_region ?_
          refine xl_pure rfl rfl rfl (pv_move (v := .slice _ _ _) rfl rfl) ?_
          refine xl_pure rfl rfl rfl (pv_move (v := .int _ _) rfl rfl) ?_
          refine xl_pure rfl rfl rfl (pv_indexAddr_l rfl (sl_eq (hQe (by omega)).1) rfl (by omega)) ?_
          refine xl_pure rfl rfl rfl (pv_fieldAddr rfl rfl) ?_
          refine xl_light rfl rfl rfl (lv_load (v := .int _ _) rfl rfl (by exact ld_num (j := 1) (hQe (by omega)).2 hw1 (by omega) (by decide))) ?_
          refine xl_pure rfl rfl rfl (pv_move (v := .int _ _) rfl rfl) ?_
          refine xl_pure rfl rfl rfl (pv_sub rfl rfl rfl (fit_i64 (by omega))) ?_
          refine xl_dec rfl rfl rfl (pv_gtr rfl rfl rfl) (fun h12_7 => ?_) (fun h12_7 => ?_)
          · skip
            refine xl_nil ?_
            refine xthen_normal ?_
            refine xc_cond_t rfl ?_
            refine xc_seq ?_
            have hjl : j < (lds L L.length).length := by omega
            have hs2 := tot_split (x := (lds L L.length)) (i := j + 1)
            have ht2 := tot_take hjl
            have hn2 := tot_nonneg (x := (lds L L.length).drop (j + 1)) (fun r hr => hp1 r (List.mem_of_mem_drop hr))
            refine xc_region ?_
            refine xl_pure rfl rfl rfl (pv_assign (v := .slice _ _ _) rfl rfl) ?_
            refine xl_pure rfl rfl rfl (pv_assign (v := .int _ _) rfl rfl) ?_
            refine xl_nil ?_
            refine xthen_normal ?_
            refine xc_ret ?_
            refine xthen_ret ?_
            refine xblock_ret ?_
            refine xthen_ret ?_
            refine xthen_ret ?_
            refine xblock_ret ?_
            refine xthen_ret ?_
            refine fin_ret (res2 (v := .slice _ _ _) (x := .int _ _) rfl rfl rfl) ?_
            exact ⟨5, .inr ⟨hok, .inl ⟨rfl, by have : (gr (lds L L.length) (j : Int).toNat).getD 1 0 = mo (gr (lds L L.length) j) := rfl; omega⟩⟩, .inr ⟨by decide, rfl⟩, hX⟩
          · skip
            refine xl_nil ?_
            refine xthen_normal ?_
            refine xc_cond_f rfl ?_
            refine xc_skip ?_
            refine xthen_normal ?_
            have hjl : j < (lds L L.length).length := by omega
            have ht1 : tot ((lds L L.length).take (j + 1)) = tot ((lds L L.length).take j) + (gr (lds L L.length) (j : Int).toNat).getD 1 0 := tot_take hjl
            have ht3 : 0 ≤ (gr (lds L L.length) (j : Int).toNat).getD 1 0 := hp1 _ (gr_mem hjl)
            refine xc_region ?_
            refine xl_pure rfl rfl rfl (pv_move (v := .int _ _) rfl rfl) ?_
            refine xl_pure rfl rfl rfl (pv_move (v := .slice _ _ _) rfl rfl) ?_
            refine xl_pure rfl rfl rfl (pv_move (v := .int _ _) rfl rfl) ?_
            refine xl_pure rfl rfl rfl (pv_indexAddr_l rfl (sl_eq (hQe (by omega)).1) rfl (by omega)) ?_
            refine xl_pure rfl rfl rfl (pv_fieldAddr rfl rfl) ?_
            refine xl_light rfl rfl rfl (lv_load (v := .int _ _) rfl rfl (by exact ld_num (j := 1) (hQe (by omega)).2 hw1 (by omega) (by decide))) ?_
            refine xl_pure rfl rfl rfl (pv_add rfl rfl rfl (fit_i64 (by omega))) ?_
            refine xl_pure rfl rfl rfl (pv_assign (v := .int _ _) rfl rfl) ?_
            refine xl_nil ?_
            refine xblock_normal ?_
            refine xthen_normal ?_
            refine xc_region ?_
            refine xl_pure rfl rfl rfl (pv_move (v := .int _ _) rfl rfl) ?_
            refine xl_pure rfl rfl rfl (pv_add rfl rfl rfl (fit_i64 (by omega))) ?_
            refine xl_pure rfl rfl rfl (pv_assign (v := .int _ _) rfl rfl) ?_
            refine xl_nil ?_
            refine xthen_normal ?_
            exact ⟨j + 1, ⟨rfl, iv (tot_take (by omega)).symm, rfl, trivial⟩, ⟨by (try simp only); omega, by omega, hQ, hX⟩, by (try simp only); omega⟩
        · skip
          refine xl_nil ?_
          refine xthen_normal ?_
          refine xc_cond_f rfl ?_
          refine xc_exit ?_
          refine xthen_exit ?_
          refine xthen_exit ?_
          refine xblock_same ?_
          refine xthen_normal ?_
          refine xc_seq ?_
          refine xc_region ?_
          refine xl_pure rfl rfl rfl (pv_move (v := .slice _ _ _) rfl rfl) ?_
          refine xl_pure rfl rfl rfl (pv_assign (v := .slice _ _ _) rfl rfl) ?_
          refine xl_pure rfl rfl rfl (pv_assign (v := .int _ _) rfl rfl) ?_
          refine xl_nil ?_
          refine xthen_normal ?_
          refine xc_ret ?_
          refine fin_ret (res2 (v := .slice _ _ _) (x := .int _ _) rfl rfl rfl) ?_
          have hjl : j = (lds L L.length).length := by omega
          rw [hjl, List.take_length] at hm
          exact ⟨0, .inr ⟨hok, .inr ⟨rfl, hm⟩⟩, .inl ⟨rfl, _, _, rfl, hQ, hc1⟩, hX⟩

theorem c25 {O : Outer} {H : Heap} {al : Option Addr} {cl : Nat} {L : List (List Int)} (hL : Rows H al 2 L) (hLl : L.length ≤ 1000) :
    FnC Try.prog 25 #[.slice al L.length cl] O H (fun v H' => ∃ e, Ldr L e ∧ (e = 0 ∧ (∃ b a' c', v = .tuple #[.pointer (some ⟨b, 0, none⟩), .int .i64 0] ∧ Fresh H b ∧ Blk H' b [.slice a' (tb (lds L L.length)).length c', .int .i64 (tot (lds L L.length))] 92 ∧ RowsT H' 138 5 a' (tb (lds L L.length)) ∧ (tb (lds L L.length)).length ≤ c' ∧ (a' = none → c' = 0)) ∧ Goo (lds L L.length) ∨ e ≠ 0 ∧ v = .tuple #[.pointer none, .int .i64 e]) ∧ Ext H H') := by
  refine fn_enter (A := [.slice al L.length cl]) Try.func25 rfl rfl ?_
  have hX := Ext.refl H
  refine xc_seq ?_
  refine xc_region ?_
  refine xl_pure rfl rfl rfl (pv_assign (v := .pointer _) rfl rfl) ?_
  refine xl_pure rfl rfl rfl (pv_assign (v := .int _ _) rfl rfl) ?_
  refine xl_nil ?_
  refine xthen_normal ?_
  refine xc_seq ?_
  refine xc_region ?_
  refine xl_pure rfl rfl rfl (pv_build_s (cs := [.slice _ _ _, .int _ _]) rfl rfl rfl) ?_
  refine xl_heavy rfl rfl rfl (hv_box rfl rfl) ?_
  rintro v1_1 H1_1 ⟨b1_1, rfl, hN1_1⟩
  have gb1_1 := hX.fresh hN1_1
  have hX := hX.trans hN1_1.ext
  have m1_1 := hN1_1.blk
  refine xl_pure rfl rfl rfl (pv_assign (v := .pointer _) rfl rfl) ?_
  refine xl_nil ?_
  refine xthen_normal ?_
  refine xc_seq ?_
  refine xc_region ?_
  refine xl_pure rfl rfl rfl (pv_assign (v := .bool _) rfl rfl) ?_
  refine xl_nil ?_
  refine xthen_normal ?_
  refine xc_seq ?_
  refine xc_seq ?_
  refine xc_region ?_
  refine xl_pure rfl rfl rfl (pv_move (v := .slice _ _ _) rfl rfl) ?_
  refine xl_pure rfl rfl rfl (pv_len_l rfl rfl) ?_
  refine xl_pure rfl rfl rfl (pv_move (v := .int _ _) rfl rfl) ?_
  refine xl_nil ?_
  refine xthen_normal ?_
  refine xc_block ?_
  refine xc_loop (τ := Nat × Option Addr × Nat × List (List Int) × Bool) (fun t => [(4, .pointer (some ⟨b1_1, 0, none⟩)), (5, .bool t.2.2.2.2), (10, .slice al L.length cl), (11, .int .i64 (L.length : Nat)), (12, .int .i64 (t.1 : Nat))]) (fun t H' => (t.1 ≤ L.length) ∧ (LInv L t.1 t.2.2.2.1 t.2.2.2.2) ∧ (Blk H' b1_1 [.slice t.2.1 (tb t.2.2.2.1).length t.2.2.1, .int .i64 (tot t.2.2.2.1)] 92) ∧ (RowsT H' 138 5 t.2.1 (tb t.2.2.2.1)) ∧ ((tb t.2.2.2.1).length ≤ t.2.2.1) ∧ (t.2.1 = none → t.2.2.1 = 0) ∧ (Ext H H')) (fun t H' => L.length - t.1) (0, none, 0, [], false) ?_ ?_ ?_
  · exact ⟨rfl, rfl, rfl, rfl, rfl, trivial⟩
  · skip
    exact ⟨Nat.zero_le _, linv_nil, m1_1, RowsT.nil, Nat.le_refl _, fun _ => rfl, hX⟩
  · intro σ
    clear hX m1_1
    rintro ⟨i, a1, c1, px, ov⟩ Hl4 ⟨hi, hI, m1_1, hR, hc1, hna1, hX⟩
    replace hi : i ≤ L.length := hi
    replace hI : LInv L i px ov := hI
    replace m1_1 : Blk Hl4 b1_1 [.slice a1 (tb px).length c1, .int .i64 (tot px)] 92 := m1_1
    replace hR : RowsT Hl4 138 5 a1 (tb px) := hR
    replace hc1 : (tb px).length ≤ c1 := hc1
    replace hna1 : a1 = none → c1 = 0 := hna1
    replace hX : Ext H Hl4 := hX
    have hlp := hI.len
    have hlt : (tb px).length < 1000000 := by rw [tb_len]; omega
    obtain ⟨bl, ofl, hLe⟩ := (hL.ext hX).at'
    show XC _ _ _ (upds σ [(4, .pointer (some ⟨b1_1, 0, none⟩)), (5, .bool ov), (10, .slice al L.length cl), (11, .int .i64 (L.length : Nat)), (12, .int .i64 (i : Nat))]) _
    refine xc_seq ?_
    refine xc_region ?_
    refine xl_dec rfl rfl rfl (pv_lss rfl rfl rfl) (fun h4_0 => ?_) (fun h4_0 => ?_)
    · skip
      refine xl_nil ?_
      refine xthen_normal ?_
      refine xc_seq ?_
      refine xc_cond_t rfl ?_
      refine xc_skip ?_
      refine xthen_normal ?_
      refine xc_seq ?_
      refine xc_block ?_
      refine xc_seq ?_
      have hr2 := hL.1.get (show i < L.length by omega)
      have q1 : (gr L i).getD 1 0 = mo (gr L i) := rfl
      refine xc_region ?_
      refine xl_pure rfl rfl rfl (pv_indexAddr_l rfl (sl_eq (hLe (by omega)).1) rfl (by omega)) ?_
      refine xl_light rfl rfl rfl (lv_load (v := .agg _) rfl rfl (by exact ld_row' (hLe (by omega)).2 hL.1 (by omega))) ?_
      refine xl_heavy rfl rfl rfl (hv_alloc rfl rfl) ?_
      rintro v5_2 H5_2 ⟨b5_2, rfl, hN5_2⟩
      have gb5_2 := hX.fresh hN5_2
      have nm1_1_5_2 := m1_1.apart hN5_2
      have m1_1 := m1_1.ext hN5_2.ext
      have hR := hR.ext hN5_2.ext
      have hX := hX.trans hN5_2.ext
      have m5_2 := hN5_2.blk
      refine xl_store rfl rfl (hv_storeA (vs := ints (gr L i)) rfl rfl rfl (m5_2) (ints_ten hr2) (by rfl) (ints_one _)) ?_
      rintro v5_3 H5_3 ⟨hU5_3, hZ5_3⟩
      have m1_1 := m1_1.off hU5_3.but (by first | exact nm1_1_5_2 | exact ⟨m1_1.ne m5_2 rfl⟩ | exact ⟨m1_1.ne m5_2 (by assumption)⟩ | exact ⟨Ne.symm (m5_2.ne m1_1 (by assumption))⟩)
      have hR := hR.offT m5_2 hU5_3.but (by first | rfl | assumption)
      have hX := hX.upd hU5_3.but gb5_2
      have m5_2 := hU5_3.blk
      refine xl_nil ?_
      refine xthen_normal ?_
      refine xc_seq ?_
      refine xc_seq ?_
      refine xc_region ?_
      refine xl_pure rfl rfl rfl (pv_fieldAddr rfl rfl) ?_
      refine xl_light rfl rfl rfl (lv_load (v := .int _ _) rfl rfl (by exact ld_get (i := 1) m5_2 (by omega))) ?_
      refine xl_dec rfl rfl rfl (pv_lss rfl rfl rfl) (fun h6_2 => ?_) (fun h6_2 => ?_)
      · skip
        refine xl_pure rfl rfl rfl (pv_move (v := .bool _) rfl rfl) ?_
        refine xl_skip rfl rfl rfl ?_
        refine xl_skip rfl rfl rfl ?_
        refine xl_skip rfl rfl rfl ?_
        refine xl_pure rfl rfl rfl (pv_pick_t (v := .bool _) rfl rfl rfl) ?_
        refine xl_pure rfl rfl rfl (pv_move (v := .bool _) rfl rfl) ?_
        refine xl_skip rfl rfl rfl ?_
        refine xl_skip rfl rfl rfl ?_
        refine xl_skip rfl rfl rfl ?_
        refine xl_skip rfl rfl rfl ?_
        refine xl_skip rfl rfl rfl ?_
        refine xl_pure rfl rfl rfl (pv_pick_t (v := .bool _) rfl rfl rfl) ?_
        refine xl_nil ?_
        refine xthen_normal ?_
        refine xc_cond_t rfl ?_
        refine xc_seq ?_
        refine xc_region ?_
        refine xl_pure rfl rfl rfl (pv_assign (v := .pointer _) rfl rfl) ?_
        refine xl_pure rfl rfl rfl (pv_assign (v := .int _ _) rfl rfl) ?_
        refine xl_nil ?_
        refine xthen_normal ?_
        refine xc_ret ?_
        refine xthen_ret ?_
        refine xblock_ret ?_
        refine xthen_ret ?_
        refine xthen_ret ?_
        refine xblock_ret ?_
        refine xthen_ret ?_
        refine fin_ret (res2 (v := .pointer _) (x := .int _ _) rfl rfl rfl) ?_
        exact ⟨1, hI.bad (by omega) (by omega), .inr ⟨by decide, rfl⟩, hX⟩
      · skip
        refine xl_pure rfl rfl rfl (pv_move (v := .bool _) rfl rfl) ?_
        refine xl_pure rfl rfl rfl (pv_fieldAddr rfl rfl) ?_
        refine xl_light rfl rfl rfl (lv_load (v := .int _ _) rfl rfl (by exact ld_get (i := 1) m5_2 (by omega))) ?_
        refine xl_dec rfl rfl rfl (pv_gtr rfl rfl rfl) (fun h6_6 => ?_) (fun h6_6 => ?_)
        · skip
          refine xl_pure rfl rfl rfl (pv_pick_f (v := .bool _) rfl rfl rfl) ?_
          refine xl_pure rfl rfl rfl (pv_move (v := .bool _) rfl rfl) ?_
          refine xl_skip rfl rfl rfl ?_
          refine xl_skip rfl rfl rfl ?_
          refine xl_skip rfl rfl rfl ?_
          refine xl_skip rfl rfl rfl ?_
          refine xl_skip rfl rfl rfl ?_
          refine xl_pure rfl rfl rfl (pv_pick_t (v := .bool _) rfl rfl rfl) ?_
          refine xl_nil ?_
          refine xthen_normal ?_
          refine xc_cond_t rfl ?_
          refine xc_seq ?_
          refine xc_region ?_
          refine xl_pure rfl rfl rfl (pv_assign (v := .pointer _) rfl rfl) ?_
          refine xl_pure rfl rfl rfl (pv_assign (v := .int _ _) rfl rfl) ?_
          refine xl_nil ?_
          refine xthen_normal ?_
          refine xc_ret ?_
          refine xthen_ret ?_
          refine xblock_ret ?_
          refine xthen_ret ?_
          refine xthen_ret ?_
          refine xblock_ret ?_
          refine xthen_ret ?_
          refine fin_ret (res2 (v := .pointer _) (x := .int _ _) rfl rfl rfl) ?_
          exact ⟨1, hI.bad (by omega) (by omega), .inr ⟨by decide, rfl⟩, hX⟩
        · skip
          refine xl_pure rfl rfl rfl (pv_pick_f (v := .bool _) rfl rfl rfl) ?_
          refine xl_pure rfl rfl rfl (pv_move (v := .bool _) rfl rfl) ?_
          refine xl_pure rfl rfl rfl (pv_move (v := .pointer _) rfl rfl) ?_
          refine xl_pure rfl rfl rfl (pv_fieldAddr rfl rfl) ?_
          refine xl_light rfl rfl rfl (lv_load (v := .int _ _) rfl rfl (by exact ld_get (i := 0) m5_2 (by omega))) ?_
          refine xl_heavy rfl rfl rfl (hv_call (g := 41) rfl rfl (c41 m1_1 hR hc1 hna1 hlt hI.goo (ow (gr L i))) rfl) ?_
          rintro v6_12 H6_12 ⟨a6_12, c6_12, rfl, hB6_12, hT6_12, hR6_12, hc6_12, hna6_12⟩
          have hR := hR.offT m1_1 hB6_12 (by first | rfl | assumption)
          have m5_2 := m5_2.off hB6_12 (by first | exact nm1_1_5_2.symm | exact ⟨m5_2.ne m1_1 rfl⟩ | exact ⟨m5_2.ne m1_1 (by assumption)⟩ | exact ⟨Ne.symm (m1_1.ne m5_2 (by assumption))⟩)
          have hX := hX.upd hB6_12 gb1_1
          have m1_1 := hT6_12
          refine xl_ndec rfl rfl rfl (pv_neq rfl rfl rfl) (fun h6_13 => ?_) (fun h6_13 => ?_)
          · skip
            refine xl_pure rfl rfl rfl (pv_pick_f (v := .bool _) rfl rfl rfl) ?_
            refine xl_nil ?_
            refine xthen_normal ?_
            refine xc_cond_f rfl ?_
            refine xc_skip ?_
            refine xthen_normal ?_
            refine xc_seq ?_
            obtain ⟨hg2, hl2, ht2⟩ := goo_open (o := ow (gr L i)) hI.goo
            have hlt2 : (tb (openX px (ow (gr L i)))).length < 1000000 := by rw [tb_len]; omega
            refine xc_region ?_
            refine xl_pure rfl rfl rfl (pv_move (v := .pointer _) rfl rfl) ?_
            refine xl_pure rfl rfl rfl (pv_fieldAddr rfl rfl) ?_
            refine xl_light rfl rfl rfl (lv_load (v := .int _ _) rfl rfl (by exact ld_get (i := 0) m5_2 (by omega))) ?_
            refine xl_pure rfl rfl rfl (pv_fieldAddr rfl rfl) ?_
            refine xl_light rfl rfl rfl (lv_load (v := .int _ _) rfl rfl (by exact ld_get (i := 1) m5_2 (by omega))) ?_
            refine xl_heavy rfl rfl rfl (hv_call (g := 42) rfl rfl (c42 m1_1 hR6_12 hc6_12 hna6_12 hlt2 hg2 (ow (gr L i)) (mo (gr L i)) (by omega)) rfl) ?_
            rintro v8_5 H8_5 ⟨a8_5, c8_5, rfl, hB8_5, hT8_5, hR8_5, hc8_5, hna8_5⟩
            have hR := hR.offT m1_1 hB8_5 (by first | rfl | assumption)
            have m5_2 := m5_2.off hB8_5 (by first | exact nm1_1_5_2.symm | exact ⟨m5_2.ne m1_1 rfl⟩ | exact ⟨m5_2.ne m1_1 (by assumption)⟩ | exact ⟨Ne.symm (m1_1.ne m5_2 (by assumption))⟩)
            have hR6_12 := hR6_12.offT m1_1 hB8_5 (by first | rfl | assumption)
            have hX := hX.upd hB8_5 gb1_1
            have m1_1 := hT8_5
            refine xl_ndec rfl rfl rfl (pv_neq rfl rfl rfl) (fun h8_6 => ?_) (fun h8_6 => ?_)
            · skip
              refine xl_nil ?_
              refine xthen_normal ?_
              refine xc_cond_f rfl ?_
              refine xc_skip ?_
              refine xblock_normal ?_
              refine xthen_normal ?_
              refine xc_region ?_
              refine xl_pure rfl rfl rfl (pv_add rfl rfl rfl (fit_i64 (by omega))) ?_
              refine xl_pure rfl rfl rfl (pv_move (v := .int _ _) rfl rfl) ?_
              refine xl_nil ?_
              refine xthen_normal ?_
              first
                | exact ⟨(i + 1, _, _, (giveX (openX px (ow (gr L i))) (ow (gr L i)) (mo (gr L i))), true), ⟨rfl, rfl, rfl, rfl, rfl, trivial⟩, ⟨by (try simp only); omega, hI.next_over (by omega) (by omega) (by omega) h6_13 h8_6, m1_1, hR8_5, hc8_5, hna8_5, hX⟩, by (try simp only); omega⟩
                | exact ⟨(i + 1, _, _, (giveX (openX px (ow (gr L i))) (ow (gr L i)) (mo (gr L i))), ov), ⟨rfl, rfl, rfl, rfl, rfl, trivial⟩, ⟨by (try simp only); omega, hI.next_ok (by omega) (by omega) (by omega) h6_13 h8_6, m1_1, hR8_5, hc8_5, hna8_5, hX⟩, by (try simp only); omega⟩
            · skip
              refine xl_nil ?_
              refine xthen_normal ?_
              refine xc_cond_t rfl ?_
              refine xc_region ?_
              refine xl_pure rfl rfl rfl (pv_assign (v := .bool _) rfl rfl) ?_
              refine xl_nil ?_
              refine xblock_normal ?_
              refine xthen_normal ?_
              refine xc_region ?_
              refine xl_pure rfl rfl rfl (pv_add rfl rfl rfl (fit_i64 (by omega))) ?_
              refine xl_pure rfl rfl rfl (pv_move (v := .int _ _) rfl rfl) ?_
              refine xl_nil ?_
              refine xthen_normal ?_
              first
                | exact ⟨(i + 1, _, _, (giveX (openX px (ow (gr L i))) (ow (gr L i)) (mo (gr L i))), true), ⟨rfl, rfl, rfl, rfl, rfl, trivial⟩, ⟨by (try simp only); omega, hI.next_over (by omega) (by omega) (by omega) h6_13 h8_6, m1_1, hR8_5, hc8_5, hna8_5, hX⟩, by (try simp only); omega⟩
                | exact ⟨(i + 1, _, _, (giveX (openX px (ow (gr L i))) (ow (gr L i)) (mo (gr L i))), ov), ⟨rfl, rfl, rfl, rfl, rfl, trivial⟩, ⟨by (try simp only); omega, hI.next_ok (by omega) (by omega) (by omega) h6_13 h8_6, m1_1, hR8_5, hc8_5, hna8_5, hX⟩, by (try simp only); omega⟩
          · skip
            refine xl_pure rfl rfl rfl (pv_pick_f (v := .bool _) rfl rfl rfl) ?_
            refine xl_nil ?_
            refine xthen_normal ?_
            refine xc_cond_t rfl ?_
            refine xc_seq ?_
            refine xc_region ?_
            refine xl_pure rfl rfl rfl (pv_assign (v := .pointer _) rfl rfl) ?_
            refine xl_pure rfl rfl rfl (pv_assign (v := .int _ _) rfl rfl) ?_
            refine xl_nil ?_
            refine xthen_normal ?_
            refine xc_ret ?_
            refine xthen_ret ?_
            refine xblock_ret ?_
            refine xthen_ret ?_
            refine xthen_ret ?_
            refine xblock_ret ?_
            refine xthen_ret ?_
            refine fin_ret (res2 (v := .pointer _) (x := .int _ _) rfl rfl rfl) ?_
            exact ⟨1, hI.bad (by omega) (by omega), .inr ⟨by decide, rfl⟩, hX⟩
    · skip
      refine xl_nil ?_
      refine xthen_normal ?_
      refine xc_seq ?_
      refine xc_cond_f rfl ?_
      refine xc_exit ?_
      refine xthen_exit ?_
      refine xthen_exit ?_
      refine xblock_same ?_
      refine xthen_normal ?_
      refine xc_seq ?_
      refine xc_seq ?_
      refine xc_region ?_
      refine xl_pure rfl rfl rfl (pv_move (v := .bool _) rfl rfl) ?_
      cases ov
      · skip
        refine xl_nil ?_
        refine xthen_normal ?_
        refine xc_cond_f rfl ?_
        refine xc_skip ?_
        refine xthen_normal ?_
        refine xc_seq ?_
        refine xc_region ?_
        refine xl_pure rfl rfl rfl (pv_move (v := .pointer _) rfl rfl) ?_
        refine xl_pure rfl rfl rfl (pv_assign (v := .pointer _) rfl rfl) ?_
        refine xl_pure rfl rfl rfl (pv_assign (v := .int _ _) rfl rfl) ?_
        refine xl_nil ?_
        refine xthen_normal ?_
        refine xc_ret ?_
        refine fin_ret (res2 (v := .pointer _) (x := .int _ _) rfl rfl rfl) ?_
        obtain rfl : i = L.length := by omega
        obtain ⟨k1, rfl, k3⟩ := hI.done
        exact ⟨0, k1, .inl ⟨rfl, ⟨_, _, _, rfl, gb1_1, m1_1, hR, hc1, hna1⟩, k3⟩, hX⟩
      · skip
        refine xl_nil ?_
        refine xthen_normal ?_
        refine xc_cond_t rfl ?_
        refine xc_seq ?_
        refine xc_region ?_
        refine xl_pure rfl rfl rfl (pv_assign (v := .pointer _) rfl rfl) ?_
        refine xl_pure rfl rfl rfl (pv_assign (v := .int _ _) rfl rfl) ?_
        refine xl_nil ?_
        refine xthen_normal ?_
        refine xc_ret ?_
        refine xthen_ret ?_
        refine fin_ret (res2 (v := .pointer _) (x := .int _ _) rfl rfl rfl) ?_
        obtain rfl : i = L.length := by omega
        exact ⟨5, hI.over, .inr ⟨by decide, rfl⟩, hX⟩
end Go.XG.Pu
