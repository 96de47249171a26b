/-
  Walks of the seat's functions over the logic XG: each function, what it computes. Printed by a program out of wip/walks.py.
-/
import Derived.Test.YtjlhjjjhblcokaaI
import Derived.Test.YtjlhjjjhblcokaaXs
import Derived.Test.YtjlhjjjhblcokaaTo
import Derived.Test.YtjlhjjjhblcokaaTa
import Derived.Test.YtjlhjjjhblcokaaTb
import Derived.Test.YtjlhjjjhblcokaaKb
import Derived.Test.YtjlhjjjhblcokaaBa
import Derived.Test.YtjlhjjjhblcokaaBb
import Derived.Test.YtjlhjjjhblcokaaBc
import Derived.Test.YtjlhjjjhblcokaaKp
import Derived.Test.YtjlhjjjhblcokaaUa
import Derived.Test.YtjlhjjjhblcokaaKv
import Derived.Test.YtjlhjjjhblcokaaXw
import Derived.Test.YtjlhjjjhblcokaaVa
import Derived.Test.YtjlhjjjhblcokaaVb
import Derived.Test.YtjlhjjjhblcokaaVc
import Derived.Test.YtjlhjjjhblcokaaVd
import Derived.Test.YtjlhjjjhblcokaaKz
namespace Go.XG
open Go.Proofs
set_option maxRecDepth 20000
set_option maxHeartbeats 4000000
theorem gNormS {O : Outer} {H : Heap} (l : List Stack) (a : Option Addr) (c : Nat) (hs : Stks H a l) (hl : l.length < 1099511627776) :
    FnC Try.prog 73 #[.slice a l.length c] O H (fun v H' => ∃ e out a' c', v = .tuple #[.slice a' (List.length out) c', .int .i64 e] ∧ List.length out ≤ l.length ∧ (e = 0 ∧ Up 0 out ∧ (∀ t, totS out t = totS l t) ∧ Own H' H.size 90 2 (.slice a' (List.length out) c') (List.length out) (fl out) ∨ e ≠ 0 ∧ ((∃ i, i < l.length ∧ ¬ (1 ≤ gx l i ∧ 0 ≤ gq l i)) ∨ ∃ t, 1125899906842624 < totS l t)) ∧ Ext H H') := by
  refine fn_enter (A := [.slice a l.length c]) Try.func73 rfl rfl ?_
  refine xc_seq ?_
  refine xc_region ?_
  refine xl_pure rfl rfl rfl (pv_assign (v := .slice _ _ _) rfl rfl) ?_
  refine xl_pure rfl rfl rfl (pv_assign (v := .int _ _) rfl rfl) ?_
  refine xl_nil ?_
  refine xthen_normal ?_
  refine xc_seq ?_
  refine xc_seq ?_
  refine xc_region ?_
  refine xl_pure rfl rfl rfl (pv_assign (v := .int _ _) rfl rfl) ?_
  refine xl_nil ?_
  refine xthen_normal ?_
  refine xc_block ?_
  refine xc_loop (τ := Nat) (fun t => [(0, .slice a l.length c), (4, .int .i64 (t : Nat))]) (fun t H' => t ≤ l.length ∧ (∀ i, i < t → 1 ≤ gx l i ∧ 0 ≤ gq l i) ∧ H = H') (fun t H' => l.length - t) 0 ?_ ?_ ?_
  · exact ⟨rfl, rfl, trivial⟩
  · skip
    exact ⟨Nat.zero_le _, fun i hi => absurd hi (by omega), rfl⟩
  · intro σ
    rintro k Hl ⟨hk, hall, rfl⟩
    show XC _ _ _ (upds σ [(0, .slice a l.length c), (4, .int .i64 (k : Nat))]) _
    refine xc_seq ?_
    refine xc_seq ?_
    refine xc_region ?_
    refine xl_pure rfl rfl rfl (pv_move (v := .int _ _) rfl rfl) ?_
    refine xl_pure rfl rfl rfl (pv_move (v := .slice _ _ _) rfl rfl) ?_
    refine xl_pure rfl rfl rfl (pv_len_l rfl rfl) ?_
    refine xl_dec rfl rfl rfl (pv_lss rfl rfl rfl) (fun h2_3 => ?_) (fun h2_3 => ?_)
    · skip
      refine xl_nil ?_
      refine xthen_normal ?_
      refine xc_cond_t rfl ?_
      refine xc_skip ?_
      refine xthen_normal ?_
      refine xc_seq ?_
      refine xc_block ?_
      refine xc_seq ?_
      obtain ⟨ba, off, hae, hsa⟩ := hs.resolve_left (by omega)
      subst hae
      refine xc_region ?_
      refine xl_pure rfl rfl rfl (pv_move (v := .slice _ _ _) rfl rfl) ?_
      refine xl_pure rfl rfl rfl (pv_move (v := .int _ _) rfl rfl) ?_
      refine xl_pure rfl rfl rfl (pv_indexAddr_l rfl rfl rfl (by omega)) ?_
      refine xl_pure rfl rfl rfl (pv_fieldAddr rfl rfl) ?_
      refine xl_light rfl rfl rfl (lv_load (v := .int _ _) rfl rfl (by first | exact (hsa k (by omega)).1)) ?_
      refine xl_dec rfl rfl rfl (pv_lss rfl rfl rfl) (fun h4_5 => ?_) (fun h4_5 => ?_)
      · skip
        refine xl_pure rfl rfl rfl (pv_move (v := .bool _) rfl rfl) ?_
        refine xl_skip rfl rfl rfl ?_
        refine xl_skip rfl rfl rfl ?_
        refine xl_skip rfl rfl rfl ?_
        refine xl_skip rfl rfl rfl ?_
        refine xl_skip rfl rfl rfl ?_
        refine xl_skip rfl rfl rfl ?_
        refine xl_pure rfl rfl rfl (pv_pick_t (v := .bool _) rfl rfl rfl) ?_
        refine xl_nil ?_
        refine xthen_normal ?_
        refine xc_cond_t rfl ?_
        refine xc_seq ?_
        refine xc_region ?_
        refine xl_pure rfl rfl rfl (pv_assign (v := .slice _ _ _) rfl rfl) ?_
        refine xl_pure rfl rfl rfl (pv_assign (v := .int _ _) rfl rfl) ?_
        refine xl_nil ?_
        refine xthen_normal ?_
        refine xc_ret ?_
        refine xblock_ret ?_
        refine xthen_ret ?_
        refine xthen_ret ?_
        refine xblock_ret ?_
        refine xthen_ret ?_
        refine fin_ret (res2 (v := .slice _ _ _) (x := .int _ _) rfl rfl rfl) ?_
        exact ⟨1, [], none, 0, rfl, Nat.zero_le _, .inr ⟨by decide, .inl ⟨k, by omega, by omega⟩⟩, Ext.refl _⟩
      · skip
        refine xl_pure rfl rfl rfl (pv_move (v := .bool _) rfl rfl) ?_
        refine xl_pure rfl rfl rfl (pv_move (v := .slice _ _ _) rfl rfl) ?_
        refine xl_pure rfl rfl rfl (pv_move (v := .int _ _) rfl rfl) ?_
        refine xl_pure rfl rfl rfl (pv_indexAddr_l rfl rfl rfl (by omega)) ?_
        refine xl_pure rfl rfl rfl (pv_fieldAddr rfl rfl) ?_
        refine xl_light rfl rfl rfl (lv_load (v := .int _ _) rfl rfl (by first | exact (hsa k (by omega)).2)) ?_
        refine xl_dec rfl rfl rfl (pv_lss rfl rfl rfl) (fun h4_12 => ?_) (fun h4_12 => ?_)
        · skip
          refine xl_pure rfl rfl rfl (pv_pick_f (v := .bool _) rfl rfl rfl) ?_
          refine xl_nil ?_
          refine xthen_normal ?_
          refine xc_cond_t rfl ?_
          refine xc_seq ?_
          refine xc_region ?_
          refine xl_pure rfl rfl rfl (pv_assign (v := .slice _ _ _) rfl rfl) ?_
          refine xl_pure rfl rfl rfl (pv_assign (v := .int _ _) rfl rfl) ?_
          refine xl_nil ?_
          refine xthen_normal ?_
          refine xc_ret ?_
          refine xblock_ret ?_
          refine xthen_ret ?_
          refine xthen_ret ?_
          refine xblock_ret ?_
          refine xthen_ret ?_
          refine fin_ret (res2 (v := .slice _ _ _) (x := .int _ _) rfl rfl rfl) ?_
          exact ⟨1, [], none, 0, rfl, Nat.zero_le _, .inr ⟨by decide, .inl ⟨k, by omega, by omega⟩⟩, Ext.refl _⟩
        · skip
          refine xl_pure rfl rfl rfl (pv_pick_f (v := .bool _) rfl rfl rfl) ?_
          refine xl_nil ?_
          refine xthen_normal ?_
          refine xc_cond_f rfl ?_
          refine xc_skip ?_
          refine xblock_normal ?_
          refine xthen_normal ?_
          refine xc_region ?_
          refine xl_pure rfl rfl rfl (pv_move (v := .int _ _) rfl rfl) ?_
          refine xl_pure rfl rfl rfl (pv_add rfl rfl rfl (fit_i64 (by omega))) ?_
          refine xl_pure rfl rfl rfl (pv_assign (v := .int _ _) rfl rfl) ?_
          refine xl_nil ?_
          refine xthen_normal ?_
          exact ⟨k + 1, ⟨rfl, rfl, trivial⟩, ⟨by omega, fun i hi => by rcases Nat.lt_or_eq_of_le (Nat.le_of_lt_succ hi) with h | h; exact hall i h; subst h; omega, rfl⟩, by omega⟩
    · skip
      refine xl_nil ?_
      refine xthen_normal ?_
      refine xc_cond_f rfl ?_
      refine xc_exit ?_
      refine xthen_exit ?_
      refine xthen_exit ?_
      refine xblock_same ?_
      refine xthen_normal ?_
      refine xc_seq ?_
      have hall : ∀ i, i < l.length → 1 ≤ gx l i ∧ 0 ≤ gq l i := fun i hi => hall i (by omega)
      refine xc_region ?_
      refine xl_pure rfl rfl rfl (pv_assign (v := .slice _ _ _) rfl rfl) ?_
      refine xl_nil ?_
      refine xthen_normal ?_
      refine xc_seq ?_
      refine xc_region ?_
      refine xl_pure rfl rfl rfl (pv_assign (v := .int _ _) rfl rfl) ?_
      refine xl_nil ?_
      refine xthen_normal ?_
      refine xc_block ?_
      refine xc_loop (τ := List Stack × Value × Int) (fun t => [(0, .slice a l.length c), (5, t.2.1), (6, .int .i64 t.2.2)]) (fun t H' => NSm l t.1 t.2.2 ∧ Own H' H.size 90 2 t.2.1 t.1.length (fl t.1) ∧ Ext H H') (fun t H' => cnt l t.2.2) ([], .slice none 0 0, 0) ?_ ?_ ?_
      · exact ⟨rfl, rfl, rfl, trivial⟩
      · skip
        exact ⟨nsm_start hall, Own.nil .., Ext.refl _⟩
      · intro σ
        rintro ⟨out, vo, last⟩ Hl ⟨hni, hown, hX⟩
        simp only at hni hown
        have hp0 := hni.pos
        have hcn := hni.count
        obtain ⟨va, vc, rfl⟩ := hown.val
        show XC _ _ _ (upds σ [(0, .slice a l.length c), (5, .slice va out.length vc), (6, .int .i64 last)]) _
        refine xc_block ?_
        refine xc_seq ?_
        refine xc_region ?_
        refine xl_pure rfl rfl rfl (pv_assign (v := .int _ _) rfl rfl) ?_
        refine xl_nil ?_
        refine xthen_normal ?_
        refine xc_seq ?_
        refine xc_seq ?_
        refine xc_region ?_
        refine xl_pure rfl rfl rfl (pv_assign (v := .int _ _) rfl rfl) ?_
        refine xl_nil ?_
        refine xthen_normal ?_
        refine xc_block ?_
        refine xc_loop (τ := Int × Nat) (fun t => [(0, .slice a l.length c), (5, .slice va out.length vc), (6, .int .i64 last), (7, .int .i64 t.1), (8, .int .i64 (t.2 : Nat))]) (fun t H' => t.2 ≤ l.length ∧ Least l last t.1 t.2 ∧ Hl = H') (fun t H' => l.length - t.2) (0, 0) ?_ ?_ ?_
        · exact ⟨rfl, rfl, rfl, rfl, rfl, trivial⟩
        · skip
          exact ⟨Nat.zero_le _, .inl ⟨rfl, fun i hi => absurd hi (by omega)⟩, rfl⟩
        · intro σ
          rintro ⟨kind, k⟩ Hm ⟨hk, hlst, rfl⟩
          simp only at hk hlst
          show XC _ _ _ (upds σ [(0, .slice a l.length c), (5, .slice va out.length vc), (6, .int .i64 last), (7, .int .i64 kind), (8, .int .i64 (k : Nat))]) _
          refine xc_seq ?_
          refine xc_seq ?_
          refine xc_region ?_
          refine xl_pure rfl rfl rfl (pv_move (v := .int _ _) rfl rfl) ?_
          refine xl_pure rfl rfl rfl (pv_move (v := .slice _ _ _) rfl rfl) ?_
          refine xl_pure rfl rfl rfl (pv_len_l rfl rfl) ?_
          refine xl_dec rfl rfl rfl (pv_lss rfl rfl rfl) (fun h10_3 => ?_) (fun h10_3 => ?_)
          · skip
            refine xl_nil ?_
            refine xthen_normal ?_
            refine xc_cond_t rfl ?_
            refine xc_skip ?_
            refine xthen_normal ?_
            refine xc_seq ?_
            refine xc_block ?_
            refine xc_seq ?_
            obtain ⟨ba, off, hae, hsa⟩ := hs.resolve_left (by omega)
            subst hae
            refine xc_region ?_
            refine xl_pure rfl rfl rfl (pv_move (v := .slice _ _ _) rfl rfl) ?_
            refine xl_pure rfl rfl rfl (pv_move (v := .int _ _) rfl rfl) ?_
            refine xl_pure rfl rfl rfl (pv_indexAddr_l rfl rfl rfl (by omega)) ?_
            refine xl_pure rfl rfl rfl (pv_fieldAddr rfl rfl) ?_
            refine xl_light rfl rfl rfl (lv_load (v := .int _ _) rfl rfl (by first | exact cellAt_ext (hsa k (by omega)).1 hX)) ?_
            refine xl_pure rfl rfl rfl (pv_move (v := .int _ _) rfl rfl) ?_
            refine xl_dec rfl rfl rfl (pv_gtr rfl rfl rfl) (fun h12_6 => ?_) (fun h12_6 => ?_)
            · skip
              refine xl_pure rfl rfl rfl (pv_move (v := .bool _) rfl rfl) ?_
              refine xl_pure rfl rfl rfl (pv_move (v := .int _ _) rfl rfl) ?_
              refine xl_dec rfl rfl rfl (pv_eql rfl rfl rfl) (fun h12_9 => ?_) (fun h12_9 => ?_)
              · skip
                refine xl_pure rfl rfl rfl (pv_move (v := .bool _) rfl rfl) ?_
                refine xl_skip rfl rfl rfl ?_
                refine xl_skip rfl rfl rfl ?_
                refine xl_skip rfl rfl rfl ?_
                refine xl_skip rfl rfl rfl ?_
                refine xl_skip rfl rfl rfl ?_
                refine xl_skip rfl rfl rfl ?_
                refine xl_skip rfl rfl rfl ?_
                refine xl_pure rfl rfl rfl (pv_pick_t (v := .bool _) rfl rfl rfl) ?_
                refine xl_pure rfl rfl rfl (pv_pick_t (v := .bool _) rfl rfl rfl) ?_
                refine xl_nil ?_
                refine xthen_normal ?_
                refine xc_cond_t rfl ?_
                refine xc_region ?_
                refine xl_pure rfl rfl rfl (pv_move (v := .slice _ _ _) rfl rfl) ?_
                refine xl_pure rfl rfl rfl (pv_move (v := .int _ _) rfl rfl) ?_
                refine xl_pure rfl rfl rfl (pv_indexAddr_l rfl rfl rfl (by omega)) ?_
                refine xl_pure rfl rfl rfl (pv_fieldAddr rfl rfl) ?_
                refine xl_light rfl rfl rfl (lv_load (v := .int _ _) rfl rfl (by first | exact cellAt_ext (hsa k (by omega)).1 hX)) ?_
                refine xl_pure rfl rfl rfl (pv_assign (v := .int _ _) rfl rfl) ?_
                refine xl_nil ?_
                refine xblock_normal ?_
                refine xthen_normal ?_
                refine xc_region ?_
                refine xl_pure rfl rfl rfl (pv_move (v := .int _ _) rfl rfl) ?_
                refine xl_pure rfl rfl rfl (pv_add rfl rfl rfl (fit_i64 (by omega))) ?_
                refine xl_pure rfl rfl rfl (pv_assign (v := .int _ _) rfl rfl) ?_
                refine xl_nil ?_
                refine xthen_normal ?_
                first
                  | exact ⟨(_, k + 1), ⟨rfl, rfl, rfl, rfl, rfl, trivial⟩, ⟨by omega, least_take hlst hp0 (by omega) (by omega), rfl⟩, by simp only; omega⟩
                  | exact ⟨(_, k + 1), ⟨rfl, rfl, rfl, rfl, rfl, trivial⟩, ⟨by omega, least_skip hlst (by omega), rfl⟩, by simp only; omega⟩
              · skip
                refine xl_pure rfl rfl rfl (pv_move (v := .bool _) rfl rfl) ?_
                refine xl_pure rfl rfl rfl (pv_move (v := .slice _ _ _) rfl rfl) ?_
                refine xl_pure rfl rfl rfl (pv_move (v := .int _ _) rfl rfl) ?_
                refine xl_pure rfl rfl rfl (pv_indexAddr_l rfl rfl rfl (by omega)) ?_
                refine xl_pure rfl rfl rfl (pv_fieldAddr rfl rfl) ?_
                refine xl_light rfl rfl rfl (lv_load (v := .int _ _) rfl rfl (by first | exact cellAt_ext (hsa k (by omega)).1 hX)) ?_
                refine xl_pure rfl rfl rfl (pv_move (v := .int _ _) rfl rfl) ?_
                refine xl_dec rfl rfl rfl (pv_lss rfl rfl rfl) (fun h12_17 => ?_) (fun h12_17 => ?_)
                · skip
                  refine xl_pure rfl rfl rfl (pv_pick_f (v := .bool _) rfl rfl rfl) ?_
                  refine xl_pure rfl rfl rfl (pv_pick_t (v := .bool _) rfl rfl rfl) ?_
                  refine xl_nil ?_
                  refine xthen_normal ?_
                  refine xc_cond_t rfl ?_
                  refine xc_region ?_
                  refine xl_pure rfl rfl rfl (pv_move (v := .slice _ _ _) rfl rfl) ?_
                  refine xl_pure rfl rfl rfl (pv_move (v := .int _ _) rfl rfl) ?_
                  refine xl_pure rfl rfl rfl (pv_indexAddr_l rfl rfl rfl (by omega)) ?_
                  refine xl_pure rfl rfl rfl (pv_fieldAddr rfl rfl) ?_
                  refine xl_light rfl rfl rfl (lv_load (v := .int _ _) rfl rfl (by first | exact cellAt_ext (hsa k (by omega)).1 hX)) ?_
                  refine xl_pure rfl rfl rfl (pv_assign (v := .int _ _) rfl rfl) ?_
                  refine xl_nil ?_
                  refine xblock_normal ?_
                  refine xthen_normal ?_
                  refine xc_region ?_
                  refine xl_pure rfl rfl rfl (pv_move (v := .int _ _) rfl rfl) ?_
                  refine xl_pure rfl rfl rfl (pv_add rfl rfl rfl (fit_i64 (by omega))) ?_
                  refine xl_pure rfl rfl rfl (pv_assign (v := .int _ _) rfl rfl) ?_
                  refine xl_nil ?_
                  refine xthen_normal ?_
                  first
                    | exact ⟨(_, k + 1), ⟨rfl, rfl, rfl, rfl, rfl, trivial⟩, ⟨by omega, least_take hlst hp0 (by omega) (by omega), rfl⟩, by simp only; omega⟩
                    | exact ⟨(_, k + 1), ⟨rfl, rfl, rfl, rfl, rfl, trivial⟩, ⟨by omega, least_skip hlst (by omega), rfl⟩, by simp only; omega⟩
                · skip
                  refine xl_pure rfl rfl rfl (pv_pick_f (v := .bool _) rfl rfl rfl) ?_
                  refine xl_pure rfl rfl rfl (pv_pick_t (v := .bool _) rfl rfl rfl) ?_
                  refine xl_nil ?_
                  refine xthen_normal ?_
                  refine xc_cond_f rfl ?_
                  refine xc_skip ?_
                  refine xblock_normal ?_
                  refine xthen_normal ?_
                  refine xc_region ?_
                  refine xl_pure rfl rfl rfl (pv_move (v := .int _ _) rfl rfl) ?_
                  refine xl_pure rfl rfl rfl (pv_add rfl rfl rfl (fit_i64 (by omega))) ?_
                  refine xl_pure rfl rfl rfl (pv_assign (v := .int _ _) rfl rfl) ?_
                  refine xl_nil ?_
                  refine xthen_normal ?_
                  first
                    | exact ⟨(_, k + 1), ⟨rfl, rfl, rfl, rfl, rfl, trivial⟩, ⟨by omega, least_take hlst hp0 (by omega) (by omega), rfl⟩, by simp only; omega⟩
                    | exact ⟨(_, k + 1), ⟨rfl, rfl, rfl, rfl, rfl, trivial⟩, ⟨by omega, least_skip hlst (by omega), rfl⟩, by simp only; omega⟩
            · skip
              refine xl_pure rfl rfl rfl (pv_move (v := .bool _) rfl rfl) ?_
              refine xl_skip rfl rfl rfl ?_
              refine xl_skip rfl rfl rfl ?_
              refine xl_skip rfl rfl rfl ?_
              refine xl_skip rfl rfl rfl ?_
              refine xl_skip rfl rfl rfl ?_
              refine xl_skip rfl rfl rfl ?_
              refine xl_skip rfl rfl rfl ?_
              refine xl_skip rfl rfl rfl ?_
              refine xl_skip rfl rfl rfl ?_
              refine xl_skip rfl rfl rfl ?_
              refine xl_skip rfl rfl rfl ?_
              refine xl_pure rfl rfl rfl (pv_pick_f (v := .bool _) rfl rfl rfl) ?_
              refine xl_nil ?_
              refine xthen_normal ?_
              refine xc_cond_f rfl ?_
              refine xc_skip ?_
              refine xblock_normal ?_
              refine xthen_normal ?_
              refine xc_region ?_
              refine xl_pure rfl rfl rfl (pv_move (v := .int _ _) rfl rfl) ?_
              refine xl_pure rfl rfl rfl (pv_add rfl rfl rfl (fit_i64 (by omega))) ?_
              refine xl_pure rfl rfl rfl (pv_assign (v := .int _ _) rfl rfl) ?_
              refine xl_nil ?_
              refine xthen_normal ?_
              first
                | exact ⟨(_, k + 1), ⟨rfl, rfl, rfl, rfl, rfl, trivial⟩, ⟨by omega, least_take hlst hp0 (by omega) (by omega), rfl⟩, by simp only; omega⟩
                | exact ⟨(_, k + 1), ⟨rfl, rfl, rfl, rfl, rfl, trivial⟩, ⟨by omega, least_skip hlst (by omega), rfl⟩, by simp only; omega⟩
          · skip
            refine xl_nil ?_
            refine xthen_normal ?_
            refine xc_cond_f rfl ?_
            refine xc_exit ?_
            refine xthen_exit ?_
            refine xthen_exit ?_
            refine xblock_same ?_
            refine xthen_normal ?_
            refine xc_seq ?_
            refine xc_seq ?_
            have hk : k = l.length := by omega
            subst hk
            refine xc_region ?_
            refine xl_pure rfl rfl rfl (pv_move (v := .int _ _) rfl rfl) ?_
            refine xl_dec rfl rfl rfl (pv_eql rfl rfl rfl) (fun h14_1 => ?_) (fun h14_1 => ?_)
            · skip
              refine xl_nil ?_
              refine xthen_normal ?_
              refine xc_cond_t rfl ?_
              refine xc_seq ?_
              refine xc_region ?_
              refine xl_pure rfl rfl rfl (pv_move (v := .slice _ _ _) rfl rfl) ?_
              refine xl_pure rfl rfl rfl (pv_assign (v := .slice _ _ _) rfl rfl) ?_
              refine xl_pure rfl rfl rfl (pv_assign (v := .int _ _) rfl rfl) ?_
              refine xl_nil ?_
              refine xthen_normal ?_
              refine xc_ret ?_
              refine xthen_ret ?_
              refine xblock_ret ?_
              refine xthen_ret ?_
              refine xblock_ret ?_
              refine fin_ret (res2 (v := .slice _ _ _) (x := .int _ _) rfl rfl rfl) ?_
              exact ⟨0, out, va, vc, rfl, by omega, .inl ⟨rfl, hni.up, hni.done (h14_1 ▸ hlst), hown⟩, hX⟩
            · skip
              refine xl_nil ?_
              refine xthen_normal ?_
              refine xc_cond_f rfl ?_
              refine xc_skip ?_
              refine xthen_normal ?_
              refine xc_seq ?_
              have hk0 : kind ≠ 0 := h14_1
              refine xc_region ?_
              refine xl_pure rfl rfl rfl (pv_assign (v := .int _ _) rfl rfl) ?_
              refine xl_nil ?_
              refine xthen_normal ?_
              refine xc_seq ?_
              refine xc_seq ?_
              refine xc_region ?_
              refine xl_pure rfl rfl rfl (pv_assign (v := .int _ _) rfl rfl) ?_
              refine xl_nil ?_
              refine xthen_normal ?_
              refine xc_block ?_
              refine xc_loop (τ := Int × Nat) (fun t => [(0, .slice a l.length c), (5, .slice va out.length vc), (6, .int .i64 last), (7, .int .i64 kind), (9, .int .i64 t.1), (10, .int .i64 (t.2 : Nat))]) (fun t H' => t.2 ≤ l.length ∧ SumS l kind t.1 t.2 ∧ Hl = H') (fun t H' => l.length - t.2) (0, 0) ?_ ?_ ?_
              · exact ⟨rfl, rfl, rfl, rfl, rfl, rfl, trivial⟩
              · skip
                exact ⟨Nat.zero_le _, sums_start, rfl⟩
              · intro σ
                rintro ⟨n, k⟩ Hm ⟨hk, hsum, rfl⟩
                simp only at hk hsum
                have hs0 := hsum.1
                have hs1 := hsum.2.1
                show XC _ _ _ (upds σ [(0, .slice a l.length c), (5, .slice va out.length vc), (6, .int .i64 last), (7, .int .i64 kind), (9, .int .i64 n), (10, .int .i64 (k : Nat))]) _
                refine xc_seq ?_
                refine xc_seq ?_
                refine xc_region ?_
                refine xl_pure rfl rfl rfl (pv_move (v := .int _ _) rfl rfl) ?_
                refine xl_pure rfl rfl rfl (pv_move (v := .slice _ _ _) rfl rfl) ?_
                refine xl_pure rfl rfl rfl (pv_len_l rfl rfl) ?_
                refine xl_dec rfl rfl rfl (pv_lss rfl rfl rfl) (fun h18_3 => ?_) (fun h18_3 => ?_)
                · skip
                  refine xl_nil ?_
                  refine xthen_normal ?_
                  refine xc_cond_t rfl ?_
                  refine xc_skip ?_
                  refine xthen_normal ?_
                  refine xc_seq ?_
                  refine xc_block ?_
                  refine xc_seq ?_
                  obtain ⟨ba, off, hae, hsa⟩ := hs.resolve_left (by omega)
                  subst hae
                  refine xc_region ?_
                  refine xl_pure rfl rfl rfl (pv_move (v := .slice _ _ _) rfl rfl) ?_
                  refine xl_pure rfl rfl rfl (pv_move (v := .int _ _) rfl rfl) ?_
                  refine xl_pure rfl rfl rfl (pv_indexAddr_l rfl rfl rfl (by omega)) ?_
                  refine xl_pure rfl rfl rfl (pv_fieldAddr rfl rfl) ?_
                  refine xl_light rfl rfl rfl (lv_load (v := .int _ _) rfl rfl (by first | exact cellAt_ext (hsa k (by omega)).1 hX)) ?_
                  refine xl_pure rfl rfl rfl (pv_move (v := .int _ _) rfl rfl) ?_
                  refine xl_dec rfl rfl rfl (pv_eql rfl rfl rfl) (fun h20_6 => ?_) (fun h20_6 => ?_)
                  · skip
                    refine xl_nil ?_
                    refine xthen_normal ?_
                    refine xc_cond_t rfl ?_
                    refine xc_seq ?_
                    refine xc_seq ?_
                    have hq0 := (hall k (by omega)).2
                    refine xc_region ?_
                    refine xl_pure rfl rfl rfl (pv_move (v := .slice _ _ _) rfl rfl) ?_
                    refine xl_pure rfl rfl rfl (pv_move (v := .int _ _) rfl rfl) ?_
                    refine xl_pure rfl rfl rfl (pv_indexAddr_l rfl rfl rfl (by omega)) ?_
                    refine xl_pure rfl rfl rfl (pv_fieldAddr rfl rfl) ?_
                    refine xl_light rfl rfl rfl (lv_load (v := .int _ _) rfl rfl (by first | exact cellAt_ext (hsa k (by omega)).2 hX)) ?_
                    refine xl_pure rfl rfl rfl (pv_move (v := .int _ _) rfl rfl) ?_
                    refine xl_pure rfl rfl rfl (pv_sub rfl rfl rfl (fit_i64 (by omega))) ?_
                    refine xl_dec rfl rfl rfl (pv_gtr rfl rfl rfl) (fun h21_7 => ?_) (fun h21_7 => ?_)
                    · skip
                      refine xl_nil ?_
                      refine xthen_normal ?_
                      refine xc_cond_t rfl ?_
                      refine xc_seq ?_
                      refine xc_region ?_
                      refine xl_pure rfl rfl rfl (pv_assign (v := .slice _ _ _) rfl rfl) ?_
                      refine xl_pure rfl rfl rfl (pv_assign (v := .int _ _) rfl rfl) ?_
                      refine xl_nil ?_
                      refine xthen_normal ?_
                      refine xc_ret ?_
                      refine xthen_ret ?_
                      refine xblock_ret ?_
                      refine xthen_ret ?_
                      refine xthen_ret ?_
                      refine xblock_ret ?_
                      refine xthen_ret ?_
                      refine xblock_ret ?_
                      refine xthen_ret ?_
                      refine xblock_ret ?_
                      refine fin_ret (res2 (v := .slice _ _ _) (x := .int _ _) rfl rfl rfl) ?_
                      exact ⟨5, [], none, 0, rfl, Nat.zero_le _, .inr ⟨by decide, .inr ⟨kind, sums_over hall hsum (by omega) h20_6 (by omega)⟩⟩, hX⟩
                    · skip
                      refine xl_nil ?_
                      refine xthen_normal ?_
                      refine xc_cond_f rfl ?_
                      refine xc_skip ?_
                      refine xthen_normal ?_
                      refine xc_region ?_
                      refine xl_pure rfl rfl rfl (pv_move (v := .int _ _) rfl rfl) ?_
                      refine xl_pure rfl rfl rfl (pv_move (v := .slice _ _ _) rfl rfl) ?_
                      refine xl_pure rfl rfl rfl (pv_move (v := .int _ _) rfl rfl) ?_
                      refine xl_pure rfl rfl rfl (pv_indexAddr_l rfl rfl rfl (by omega)) ?_
                      refine xl_pure rfl rfl rfl (pv_fieldAddr rfl rfl) ?_
                      refine xl_light rfl rfl rfl (lv_load (v := .int _ _) rfl rfl (by first | exact cellAt_ext (hsa k (by omega)).2 hX)) ?_
                      refine xl_pure rfl rfl rfl (pv_add rfl rfl rfl (fit_i64 (by omega))) ?_
                      refine xl_pure rfl rfl rfl (pv_assign (v := .int _ _) rfl rfl) ?_
                      refine xl_nil ?_
                      refine xblock_normal ?_
                      refine xthen_normal ?_
                      refine xc_region ?_
                      refine xl_pure rfl rfl rfl (pv_move (v := .int _ _) rfl rfl) ?_
                      refine xl_pure rfl rfl rfl (pv_add rfl rfl rfl (fit_i64 (by omega))) ?_
                      refine xl_pure rfl rfl rfl (pv_assign (v := .int _ _) rfl rfl) ?_
                      refine xl_nil ?_
                      refine xthen_normal ?_
                      first
                        | exact ⟨(_, k + 1), ⟨rfl, rfl, rfl, rfl, rfl, rfl, trivial⟩, ⟨by omega, sums_take hsum (by omega) h20_6 (hall k (by omega)).2 (by omega), rfl⟩, by simp only; omega⟩
                        | exact ⟨(_, k + 1), ⟨rfl, rfl, rfl, rfl, rfl, rfl, trivial⟩, ⟨by omega, sums_skip hsum (by omega) h20_6, rfl⟩, by simp only; omega⟩
                  · skip
                    refine xl_nil ?_
                    refine xthen_normal ?_
                    refine xc_cond_f rfl ?_
                    refine xc_skip ?_
                    refine xblock_normal ?_
                    refine xthen_normal ?_
                    refine xc_region ?_
                    refine xl_pure rfl rfl rfl (pv_move (v := .int _ _) rfl rfl) ?_
                    refine xl_pure rfl rfl rfl (pv_add rfl rfl rfl (fit_i64 (by omega))) ?_
                    refine xl_pure rfl rfl rfl (pv_assign (v := .int _ _) rfl rfl) ?_
                    refine xl_nil ?_
                    refine xthen_normal ?_
                    first
                      | exact ⟨(_, k + 1), ⟨rfl, rfl, rfl, rfl, rfl, rfl, trivial⟩, ⟨by omega, sums_take hsum (by omega) h20_6 (hall k (by omega)).2 (by omega), rfl⟩, by simp only; omega⟩
                      | exact ⟨(_, k + 1), ⟨rfl, rfl, rfl, rfl, rfl, rfl, trivial⟩, ⟨by omega, sums_skip hsum (by omega) h20_6, rfl⟩, by simp only; omega⟩
                · skip
                  refine xl_nil ?_
                  refine xthen_normal ?_
                  refine xc_cond_f rfl ?_
                  refine xc_exit ?_
                  refine xthen_exit ?_
                  refine xthen_exit ?_
                  refine xblock_same ?_
                  refine xthen_normal ?_
                  refine xc_seq ?_
                  refine xc_seq ?_
                  have hk : k = l.length := by omega
                  subst hk
                  refine xc_region ?_
                  refine xl_pure rfl rfl rfl (pv_move (v := .int _ _) rfl rfl) ?_
                  refine xl_dec rfl rfl rfl (pv_gtr rfl rfl rfl) (fun h24_1 => ?_) (fun h24_1 => ?_)
                  · skip
                    refine xl_nil ?_
                    refine xthen_normal ?_
                    refine xc_cond_t rfl ?_
                    have hol : out.length ≤ l.length := by omega
                    refine xc_region ?_
                    refine xl_pure rfl rfl rfl (pv_move (v := .slice _ _ _) rfl rfl) ?_
                    refine xl_pure rfl rfl rfl (pv_move (v := .int _ _) rfl rfl) ?_
                    refine xl_pure rfl rfl rfl (pv_move (v := .int _ _) rfl rfl) ?_
                    refine xl_pure rfl rfl rfl (pv_build_s (cs := [.int _ _, .int _ _]) rfl rfl rfl) ?_
                    refine xl_heavy rfl rfl rfl (hv_buildSlice (cs := [.int _ _, .int _ _]) rfl rfl rfl rfl rfl) ?_
                    rintro v25_4 H25_4 ⟨b25_4, rfl, hN25_4⟩
                    refine xl_heavy rfl rfl rfl (hv_append rfl rfl (hown.ext hN25_4.ext) rfl hN25_4.blk.row rfl (by simp [Value.oneCell']) rfl (by decide) (by omega) (by omega) (Nat.le_trans hX.size hN25_4.ext.size)) ?_
                    rintro v25_5 H25_5 ⟨hO25_5, hG25_5, -, -⟩
                    obtain ⟨a25_5, c25_5, rfl⟩ := hO25_5.val
                    refine xl_pure rfl rfl rfl (pv_assign (v := .slice _ _ _) rfl rfl) ?_
                    refine xl_nil ?_
                    refine xthen_normal ?_
                    refine xc_region ?_
                    refine xl_pure rfl rfl rfl (pv_move (v := .int _ _) rfl rfl) ?_
                    refine xl_pure rfl rfl rfl (pv_assign (v := .int _ _) rfl rfl) ?_
                    refine xl_nil ?_
                    refine xblock_normal ?_
                    refine xthen_normal ?_
                    first
                      | exact ⟨(_, _, _), ⟨rfl, rfl, rfl, trivial⟩, ⟨hni.next hlst hk0 hsum (by omega), by simpa [fl_snoc] using hO25_5, (hown.ext hN25_4.ext).grown (hX.trans hN25_4.ext) hG25_5 (Nat.le_refl _)⟩, cnt_next hlst hk0⟩
                      | exact ⟨(_, _, _), ⟨rfl, rfl, rfl, trivial⟩, ⟨hni.next0 hlst hk0 hsum (by omega), hown, hX⟩, cnt_next hlst hk0⟩
                  · skip
                    refine xl_nil ?_
                    refine xthen_normal ?_
                    refine xc_cond_f rfl ?_
                    refine xc_skip ?_
                    refine xthen_normal ?_
                    refine xc_region ?_
                    refine xl_pure rfl rfl rfl (pv_move (v := .int _ _) rfl rfl) ?_
                    refine xl_pure rfl rfl rfl (pv_assign (v := .int _ _) rfl rfl) ?_
                    refine xl_nil ?_
                    refine xblock_normal ?_
                    refine xthen_normal ?_
                    first
                      | exact ⟨(_, _, _), ⟨rfl, rfl, rfl, trivial⟩, ⟨hni.next hlst hk0 hsum (by omega), by simpa [fl_snoc] using hO25_5, (hown.ext hN25_4.ext).grown (hX.trans hN25_4.ext) hG25_5 (Nat.le_refl _)⟩, cnt_next hlst hk0⟩
                      | exact ⟨(_, _, _), ⟨rfl, rfl, rfl, trivial⟩, ⟨hni.next0 hlst hk0 hsum (by omega), hown, hX⟩, cnt_next hlst hk0⟩

theorem gNormN {O : Outer} {H : Heap} (l : List Stack) (a : Option Addr) (c : Nat) (hs : Stks H a l) (hl : l.length < 1099511627776) (hn : Nat1 l) (ht : ∀ t, totS l t ≤ 1125899906842624) :
    FnC Try.prog 73 #[.slice a l.length c] O H (fun v H' => ∃ out a' c', v = .tuple #[.slice a' (List.length out) c', .int .i64 0] ∧ List.length out ≤ l.length ∧ Up 0 out ∧ (∀ t, totS out t = totS l t) ∧ Own H' H.size 90 2 (.slice a' (List.length out) c') (List.length out) (fl out) ∧ Ext H H') :=
  (gNormS l a c hs hl).mono fun v H' ⟨e, out, a', c', hv, hle, h, hE⟩ => by
    rcases h with ⟨rfl, h1, h2, h3⟩ | ⟨_, ⟨i, hi, h2⟩ | ⟨t, h2⟩⟩
    · exact ⟨out, a', c', hv, hle, h1, h2, h3, hE⟩
    · exact absurd (hn i hi) h2
    · have := ht t; omega

theorem c72 {O : Outer} {H : Heap} {aa ab : Option Addr} {ca cb : Nat} (A B : List Stack) (hA : Stks H aa A) (hB : Stks H ab B) (hAl : A.length ≤ 1000) (hBl : B.length ≤ 1000) (nA : Nat1 A) (nB : Nat1 B) (tA : ∀ t, totS A t ≤ 1125899906842624) (tB : ∀ t, totS B t ≤ 1125899906842624) :
    FnC Try.prog 72 #[.slice aa A.length ca, .slice ab B.length cb] O H (fun v H' => ∃ X Y ax cx ay cy b1 b2, v = .tuple #[.slice ax (List.length X) cx, .slice ay (List.length Y) cy, .int .i64 0] ∧ List.length X ≤ A.length ∧ List.length Y ≤ B.length ∧ Up 0 X ∧ Up 0 Y ∧ (∀ t, totS X t = totS A t) ∧ (∀ t, totS Y t = totS B t) ∧ Own H' b1 90 2 (.slice ax (List.length X) cx) (List.length X) (fl X) ∧ Own H' b2 90 2 (.slice ay (List.length Y) cy) (List.length Y) (fl Y) ∧ Ext H H') := by
  refine fn_enter (A := [.slice aa A.length ca, .slice ab B.length cb]) Try.func72 rfl rfl ?_
  have hX := Ext.refl H
  refine xc_seq ?_
  refine xc_region ?_
  refine xl_pure rfl rfl rfl (pv_assign (v := .slice _ _ _) rfl rfl) ?_
  refine xl_pure rfl rfl rfl (pv_assign (v := .slice _ _ _) rfl rfl) ?_
  refine xl_pure rfl rfl rfl (pv_assign (v := .int _ _) rfl rfl) ?_
  refine xl_nil ?_
  refine xthen_normal ?_
  refine xc_seq ?_
  refine xc_region ?_
  refine xl_pure rfl rfl rfl (pv_move (v := .slice _ _ _) rfl rfl) ?_
  refine xl_heavy rfl rfl rfl (hv_call (g := 73) rfl rfl (gNormN A _ _ (hA.ext hX) (by omega) nA tA) rfl) ?_
  rintro v1_1 H1_1 ⟨X1_1, a1_1, c1_1, rfl, hl1_1, hu1_1, ht1_1, hO1_1, hE1_1⟩
  have hX := hX.trans hE1_1
  refine xl_pure rfl rfl rfl (pv_move (v := .tuple _) rfl rfl) ?_
  refine xl_pure rfl rfl rfl (pv_extract (v := .slice _ _ _) rfl rfl rfl) ?_
  refine xl_pure rfl rfl rfl (pv_extract (v := .int _ _) rfl rfl rfl) ?_
  refine xl_pure rfl rfl rfl (pv_assign (v := .slice _ _ _) rfl rfl) ?_
  refine xl_pure rfl rfl rfl (pv_assign (v := .int _ _) rfl rfl) ?_
  refine xl_nil ?_
  refine xthen_normal ?_
  refine xc_seq ?_
  refine xc_seq ?_
  refine xc_region ?_
  refine xl_pure rfl rfl rfl (pv_move (v := .int _ _) rfl rfl) ?_
  refine xl_ndec rfl rfl rfl (pv_neq rfl rfl rfl) (fun h2_1 => ?_) (fun h2_1 => ?_)
  · skip
    refine xl_nil ?_
    refine xthen_normal ?_
    refine xc_cond_f rfl ?_
    refine xc_skip ?_
    refine xthen_normal ?_
    refine xc_seq ?_
    refine xc_region ?_
    refine xl_pure rfl rfl rfl (pv_move (v := .slice _ _ _) rfl rfl) ?_
    refine xl_heavy rfl rfl rfl (hv_call (g := 73) rfl rfl (gNormN B _ _ (hB.ext hX) (by omega) nB tB) rfl) ?_
    rintro v4_1 H4_1 ⟨X4_1, a4_1, c4_1, rfl, hl4_1, hu4_1, ht4_1, hO4_1, hE4_1⟩
    have hO1_1 := hO1_1.ext hE4_1
    have hX := hX.trans hE4_1
    refine xl_pure rfl rfl rfl (pv_move (v := .tuple _) rfl rfl) ?_
    refine xl_pure rfl rfl rfl (pv_extract (v := .slice _ _ _) rfl rfl rfl) ?_
    refine xl_pure rfl rfl rfl (pv_extract (v := .int _ _) rfl rfl rfl) ?_
    refine xl_pure rfl rfl rfl (pv_assign (v := .slice _ _ _) rfl rfl) ?_
    refine xl_pure rfl rfl rfl (pv_assign (v := .int _ _) rfl rfl) ?_
    refine xl_nil ?_
    refine xthen_normal ?_
    refine xc_seq ?_
    refine xc_seq ?_
    refine xc_region ?_
    refine xl_pure rfl rfl rfl (pv_move (v := .int _ _) rfl rfl) ?_
    refine xl_ndec rfl rfl rfl (pv_neq rfl rfl rfl) (fun h5_1 => ?_) (fun h5_1 => ?_)
    · skip
      refine xl_nil ?_
      refine xthen_normal ?_
      refine xc_cond_f rfl ?_
      refine xc_skip ?_
      refine xthen_normal ?_
      refine xc_seq ?_
      refine xc_region ?_
      refine xl_pure rfl rfl rfl (pv_move (v := .slice _ _ _) rfl rfl) ?_
      refine xl_pure rfl rfl rfl (pv_move (v := .slice _ _ _) rfl rfl) ?_
      refine xl_pure rfl rfl rfl (pv_assign (v := .slice _ _ _) rfl rfl) ?_
      refine xl_pure rfl rfl rfl (pv_assign (v := .slice _ _ _) rfl rfl) ?_
      refine xl_pure rfl rfl rfl (pv_assign (v := .int _ _) rfl rfl) ?_
      refine xl_nil ?_
      refine xthen_normal ?_
      refine xc_ret ?_
      refine fin_ret (res3 (v := .slice _ _ _) (x := .slice _ _ _) (y := .int _ _) rfl rfl rfl rfl) ?_
      exact ⟨X1_1, X4_1, _, _, _, _, _, _, rfl, hl1_1, hl4_1, hu1_1, hu4_1, ht1_1, ht4_1, hO1_1, hO4_1, hX⟩
    · exact absurd (by decide) h5_1
  · exact absurd (by decide) h2_1

theorem c37 {O : Outer} {H : Heap} {aa ab : Option Addr} {ca cb : Nat} (A B : List Stack) (hA : Stks H aa A) (hB : Stks H ab B) (hAl : A.length ≤ 1000) (hBl : B.length ≤ 1000) (nA : Nat1 A) (nB : Nat1 B) (tAB : ∀ t, totS A t + totS B t ≤ 1125899906842624) :
    FnC Try.prog 37 #[.slice aa A.length ca, .slice ab B.length cb] O H (fun v H' => ∃ out a' c', v = .tuple #[.slice a' (List.length out) c', .int .i64 0] ∧ List.length out ≤ A.length + B.length ∧ Up 0 out ∧ (∀ t, totS out t = totS A t + totS B t) ∧ Stks H' a' out ∧ Ext H H') := by
  have nnA := fun t => totS_nn (t := t) nA.nn
  have nnB := fun t => totS_nn (t := t) nB.nn
  refine fn_enter (A := [.slice aa A.length ca, .slice ab B.length cb]) Try.func37 rfl rfl ?_
  have hX := Ext.refl H
  refine xc_seq ?_
  refine xc_region ?_
  refine xl_pure rfl rfl rfl (pv_assign (v := .slice _ _ _) rfl rfl) ?_
  refine xl_pure rfl rfl rfl (pv_assign (v := .int _ _) rfl rfl) ?_
  refine xl_nil ?_
  refine xthen_normal ?_
  refine xc_seq ?_
  refine xc_region ?_
  refine xl_pure rfl rfl rfl (pv_move (v := .slice _ _ _) rfl rfl) ?_
  refine xl_pure rfl rfl rfl (pv_move (v := .slice _ _ _) rfl rfl) ?_
  refine xl_heavy rfl rfl rfl (hv_call (g := 72) rfl rfl (c72 A B (hA.ext hX) (hB.ext hX) hAl hBl nA nB (fun t => by have := tAB t; have := nnB t; omega) (fun t => by have := tAB t; have := nnA t; omega)) rfl) ?_
  rintro v1_2 H1_2 ⟨X, Y, ax, cx, ay, cy, b1, b2, rfl, hXl, hYl, hXu, hYu, hXt, hYt, hOx, hOy, hE1_2⟩
  have hX := hX.trans hE1_2
  refine xl_pure rfl rfl rfl (pv_move (v := .tuple _) rfl rfl) ?_
  refine xl_pure rfl rfl rfl (pv_extract (v := .slice _ _ _) rfl rfl rfl) ?_
  refine xl_pure rfl rfl rfl (pv_extract (v := .slice _ _ _) rfl rfl rfl) ?_
  refine xl_pure rfl rfl rfl (pv_extract (v := .int _ _) rfl rfl rfl) ?_
  refine xl_pure rfl rfl rfl (pv_assign (v := .slice _ _ _) rfl rfl) ?_
  refine xl_pure rfl rfl rfl (pv_assign (v := .slice _ _ _) rfl rfl) ?_
  refine xl_pure rfl rfl rfl (pv_assign (v := .int _ _) rfl rfl) ?_
  refine xl_nil ?_
  refine xthen_normal ?_
  refine xc_seq ?_
  refine xc_seq ?_
  refine xc_region ?_
  refine xl_pure rfl rfl rfl (pv_move (v := .int _ _) rfl rfl) ?_
  refine xl_ndec rfl rfl rfl (pv_neq rfl rfl rfl) (fun h2_1 => ?_) (fun h2_1 => ?_)
  · skip
    refine xl_nil ?_
    refine xthen_normal ?_
    refine xc_cond_f rfl ?_
    refine xc_skip ?_
    refine xthen_normal ?_
    refine xc_seq ?_
    refine xc_region ?_
    refine xl_pure rfl rfl rfl (pv_assign (v := .slice _ _ _) rfl rfl) ?_
    refine xl_nil ?_
    refine xthen_normal ?_
    refine xc_seq ?_
    refine xc_region ?_
    refine xl_pure rfl rfl rfl (pv_move (v := .slice _ _ _) rfl rfl) ?_
    refine xl_pure rfl rfl rfl (pv_move (v := .slice _ _ _) rfl rfl) ?_
    refine xl_heavy rfl rfl rfl (hv_append_stk (X := []) (Y := X) rfl rfl (Own.nil _ H.size 90 2) rfl hOx rfl (by simp; omega) (by decide) hX.size) ?_
    rintro v5_2 H5_2 ⟨hO5_2, hG5_2⟩
    have hE5_2 := gr_ext hG5_2
    have hOy := hOy.ext hE5_2
    have hX := hX.trans hE5_2
    rw [List.nil_append] at hO5_2
    obtain ⟨a5_2, c5_2, rfl⟩ := hO5_2.val
    refine xl_pure rfl rfl rfl (pv_assign (v := .slice _ _ _) rfl rfl) ?_
    refine xl_nil ?_
    refine xthen_normal ?_
    refine xc_seq ?_
    refine xc_region ?_
    refine xl_pure rfl rfl rfl (pv_move (v := .slice _ _ _) rfl rfl) ?_
    refine xl_pure rfl rfl rfl (pv_move (v := .slice _ _ _) rfl rfl) ?_
    refine xl_heavy rfl rfl rfl (hv_append_stk (X := X) (Y := Y) rfl rfl hO5_2 rfl hOy rfl (by omega) (by decide) hX.size) ?_
    rintro v6_2 H6_2 ⟨hO6_2, hG6_2⟩
    have hX := Own.grown hO5_2 hX hG6_2 (Nat.le_refl _)
    obtain ⟨a6_2, c6_2, rfl⟩ := hO6_2.val
    refine xl_pure rfl rfl rfl (pv_assign (v := .slice _ _ _) rfl rfl) ?_
    refine xl_nil ?_
    refine xthen_normal ?_
    refine xc_seq ?_
    refine xc_region ?_
    refine xl_pure rfl rfl rfl (pv_move (v := .slice _ _ _) rfl rfl) ?_
    refine xl_heavy rfl rfl rfl (hv_call (g := 73) rfl rfl (gNormN (X ++ Y) _ _ (own_stks hO6_2) (by rw [List.length_append]; omega) (nat1_app hXu hYu) (fun t => by rw [totS_app, hXt, hYt]; exact tAB t)) rfl) ?_
    rintro v7_1 H7_1 ⟨out, a7_1, c7_1, rfl, hl7_1, hu7_1, ht7_1, hO7_1, hE7_1⟩
    have hX := hX.trans hE7_1
    refine xl_pure rfl rfl rfl (pv_extract (v := .slice _ _ _) rfl rfl rfl) ?_
    refine xl_pure rfl rfl rfl (pv_extract (v := .int _ _) rfl rfl rfl) ?_
    refine xl_pure rfl rfl rfl (pv_assign (v := .slice _ _ _) rfl rfl) ?_
    refine xl_pure rfl rfl rfl (pv_assign (v := .int _ _) rfl rfl) ?_
    refine xl_nil ?_
    refine xthen_normal ?_
    refine xc_ret ?_
    refine fin_ret (res2 (v := .slice _ _ _) (x := .int _ _) rfl rfl rfl) ?_
    exact ⟨out, _, _, rfl, by rw [List.length_append] at hl7_1; omega, hu7_1, fun t => by rw [ht7_1, totS_app, hXt, hYt], own_stks hO7_1, hX⟩
  · exact absurd (by decide) h2_1
end Go.XG
