/-
  Walks of the seat's functions over the logic XG: each function, what it computes. Printed by a program out of wip/walks.py.
-/
import Derived.Test.YtoabjfmegnjicaaI
import Derived.Test.YtoabjfmegnjicaaTo
import Derived.Test.YtoabjfmegnjicaaTa
import Derived.Test.YtoabjfmegnjicaaTb
import Derived.Test.YtoabjfmegnjicaaTc
import Derived.Test.YtoabjfmegnjicaaTd
import Derived.Test.YtoabjfmegnjicaaQ
import Derived.Test.YtoabjfmegnjicaaWa
import Derived.Test.YtoabjfmegnjicaaWb
import Derived.Test.YtoabjfmegnjicaaWc
import Derived.Test.YtoabjfmegnjicaaWd
import Derived.Test.YtoabjfmegnjicaaWe
import Derived.Test.YtoabjfmegnjicaaB
import Derived.Test.YtoabjfmegnjicaaWf
import Derived.Test.YtoabjfmegnjicaaD
namespace Go.XG
open Go.Proofs
set_option maxRecDepth 4000
set_option maxHeartbeats 4000000
theorem gSame {O : Outer} {H : Heap} (l m : List Stack) (a a' : Option Addr) (c c' : Nat) (hs : Stks H a l) (hs' : Stks H a' m) (hl : l.length < 4611686018427387904) :
    FnC Try.prog 23 #[.slice a l.length c, .slice a' m.length c'] O H (fun v H' => ∃ r, v = .bool r ∧ (r = true ↔ l = m) ∧ H = H') := by
  refine fn_enter (A := [.slice a l.length c, .slice a' m.length c']) Try.func23 rfl rfl ?_
  refine xc_seq ?_
  refine xc_region ?_
  refine xl_pure rfl rfl rfl (pv_assign (v := .bool _) rfl rfl) ?_
  refine xl_nil ?_
  refine xthen_normal ?_
  refine xc_seq ?_
  refine xc_seq ?_
  refine xc_region ?_
  refine xl_pure rfl rfl rfl (pv_move (v := .slice _ _ _) rfl rfl) ?_
  refine xl_pure rfl rfl rfl (pv_len_l rfl rfl) ?_
  refine xl_pure rfl rfl rfl (pv_move (v := .slice _ _ _) rfl rfl) ?_
  refine xl_pure rfl rfl rfl (pv_len_l rfl rfl) ?_
  refine xl_ndec rfl rfl rfl (pv_neq rfl rfl rfl) (fun h1_4 => ?_) (fun h1_4 => ?_)
  · skip
    refine xl_nil ?_
    refine xthen_normal ?_
    refine xc_cond_f rfl ?_
    refine xc_skip ?_
    refine xthen_normal ?_
    refine xc_seq ?_
    refine xc_seq ?_
    refine xc_region ?_
    refine xl_pure rfl rfl rfl (pv_assign (v := .int _ _) rfl rfl) ?_
    refine xl_nil ?_
    refine xthen_normal ?_
    refine xc_block ?_
    refine xc_loop (τ := Nat) (fun t => [(0, .slice a l.length c), (1, .slice a' m.length c'), (5, .int .i64 (t : Nat))]) (fun t H' => t ≤ l.length ∧ (l = m ↔ l.drop t = m.drop t) ∧ H = H') (fun t H' => l.length - t) 0 ?_ ?_ ?_
    · exact ⟨rfl, rfl, rfl, trivial⟩
    · skip
      exact ⟨Nat.zero_le _, Iff.rfl, rfl⟩
    · intro σ
      rintro k Hl ⟨hk, heq, rfl⟩
      show XC _ _ _ (upds σ [(0, .slice a l.length c), (1, .slice a' m.length c'), (5, .int .i64 (k : Nat))]) _
      refine xc_seq ?_
      refine xc_seq ?_
      refine xc_region ?_
      refine xl_pure rfl rfl rfl (pv_move (v := .int _ _) rfl rfl) ?_
      refine xl_pure rfl rfl rfl (pv_move (v := .slice _ _ _) rfl rfl) ?_
      refine xl_pure rfl rfl rfl (pv_len_l rfl rfl) ?_
      refine xl_dec rfl rfl rfl (pv_lss rfl rfl rfl) (fun h4_3 => ?_) (fun h4_3 => ?_)
      · skip
        refine xl_pure rfl rfl rfl (pv_move (v := .bool _) rfl rfl) ?_
        refine xl_pure rfl rfl rfl (pv_move (v := .int _ _) rfl rfl) ?_
        refine xl_pure rfl rfl rfl (pv_move (v := .slice _ _ _) rfl rfl) ?_
        refine xl_pure rfl rfl rfl (pv_len_l rfl rfl) ?_
        refine xl_dec rfl rfl rfl (pv_lss rfl rfl rfl) (fun h4_8 => ?_) (fun h4_8 => ?_)
        · skip
          refine xl_pure rfl rfl rfl (pv_pick_t (v := .bool _) rfl rfl rfl) ?_
          refine xl_nil ?_
          refine xthen_normal ?_
          refine xc_cond_t rfl ?_
          refine xc_skip ?_
          refine xthen_normal ?_
          refine xc_seq ?_
          refine xc_block ?_
          refine xc_seq ?_
          obtain ⟨ba, off, rfl, hsa⟩ := hs.resolve_left (by omega)
          obtain ⟨bb, off', rfl, hsb⟩ := hs'.resolve_left (by omega)
          refine xp_start rfl (by repeat (first | with_reducible exact np_fin | with_reducible exact np_ret | with_reducible refine np_then ?_ | with_reducible refine np_block ?_)) (by kernel_rfl) ?_
          refine xp_pure (i := 0) rfl (by kernel_rfl) (by kernel_rfl) rfl rfl rfl (pv_move (v := .slice _ _ _) rfl rfl) ?_
          refine xp_pure (i := 1) rfl (by kernel_rfl) (by kernel_rfl) rfl rfl rfl (pv_move (v := .int _ _) rfl rfl) ?_
          refine xp_pure (i := 2) rfl (by kernel_rfl) (by kernel_rfl) rfl rfl rfl (pv_indexAddr_l rfl rfl rfl (by omega)) ?_
          refine xp_light (i := 3) rfl (by kernel_rfl) (by kernel_rfl) rfl rfl rfl (lv_load (v := .agg _) rfl rfl (by first | exact ld_stk (k := k) hsa (by omega))) ?_
          refine xp_pure (i := 4) rfl (by kernel_rfl) (by kernel_rfl) rfl rfl rfl (pv_move (v := .slice _ _ _) rfl rfl) ?_
          refine xp_pure (i := 5) rfl (by kernel_rfl) (by kernel_rfl) rfl rfl rfl (pv_move (v := .int _ _) rfl rfl) ?_
          refine xp_pure (i := 6) rfl (by kernel_rfl) (by kernel_rfl) rfl rfl rfl (pv_indexAddr_l rfl rfl rfl (by omega)) ?_
          refine xp_light (i := 7) rfl (by kernel_rfl) (by kernel_rfl) rfl rfl rfl (lv_load (v := .agg _) rfl rfl (by first | exact ld_stk (k := k) hsb (by omega))) ?_
          refine xp_ndec (i := 8) rfl (by kernel_rfl) (by kernel_rfl) rfl rfl rfl (pv_neq_st [gx l k, gq l k] [gx m k, gq m k] rfl rfl rfl rfl rfl) (fun h6_8 => ?_) (fun h6_8 => ?_)
          · skip
            refine xp_done (by kernel_rfl) ?_
            refine xthen_normal ?_
            refine xc_cond_f rfl ?_
            refine xc_skip ?_
            refine xblock_normal ?_
            refine xthen_normal ?_
            refine xc_region ?_
            refine xl_pure rfl rfl rfl (pv_move (v := .int _ _) rfl rfl) ?_
            refine xl_pure rfl rfl rfl (pv_add rfl rfl rfl (fit_i64 (by omega))) ?_
            refine xl_pure rfl rfl rfl (pv_assign (v := .int _ _) rfl rfl) ?_
            refine xl_nil ?_
            refine xthen_normal ?_
            exact ⟨k + 1, ⟨rfl, rfl, rfl, trivial⟩, ⟨by omega, by rw [drop_eq (by omega) (by omega) heq]; simp only [List.cons.injEq, and_true] at h6_8; simp [h6_8], rfl⟩, by omega⟩
          · skip
            refine xp_done (by kernel_rfl) ?_
            refine xthen_normal ?_
            refine xc_cond_t rfl ?_
            refine xc_seq ?_
            refine xc_region ?_
            refine xl_pure rfl rfl rfl (pv_assign (v := .bool _) rfl rfl) ?_
            refine xl_nil ?_
            refine xthen_normal ?_
            refine xc_ret ?_
            refine xblock_ret ?_
            refine xthen_ret ?_
            refine xthen_ret ?_
            refine xblock_ret ?_
            refine xthen_ret ?_
            refine fin_ret (res1 (v := .bool _) rfl rfl) ?_
            exact ⟨false, rfl, ⟨fun h => absurd h (by decide), fun h => by have h := ((drop_eq (by omega) (by omega) heq).1 h).1; exact absurd (by rw [h.1, h.2]) h6_8⟩, rfl⟩
        · skip
          refine xl_pure rfl rfl rfl (pv_pick_t (v := .bool _) rfl rfl rfl) ?_
          refine xl_nil ?_
          refine xthen_normal ?_
          refine xc_cond_f rfl ?_
          refine xc_exit ?_
          refine xthen_exit ?_
          refine xthen_exit ?_
          refine xblock_same ?_
          refine xthen_normal ?_
          refine xc_seq ?_
          refine xc_region ?_
          refine xl_pure rfl rfl rfl (pv_assign (v := .bool _) rfl rfl) ?_
          refine xl_nil ?_
          refine xthen_normal ?_
          refine xc_ret ?_
          refine fin_ret (res1 (v := .bool _) rfl rfl) ?_
          exact ⟨true, rfl, ⟨fun _ => heq.2 (by rw [List.drop_of_length_le (by omega), List.drop_of_length_le (by omega)]), fun _ => rfl⟩, rfl⟩
      · skip
        refine xl_pure rfl rfl rfl (pv_move (v := .bool _) rfl rfl) ?_
        refine xl_skip rfl rfl rfl ?_
        refine xl_skip rfl rfl rfl ?_
        refine xl_skip rfl rfl rfl ?_
        refine xl_skip rfl rfl rfl ?_
        refine xl_pure rfl rfl rfl (pv_pick_f (v := .bool _) rfl rfl rfl) ?_
        refine xl_nil ?_
        refine xthen_normal ?_
        refine xc_cond_f rfl ?_
        refine xc_exit ?_
        refine xthen_exit ?_
        refine xthen_exit ?_
        refine xblock_same ?_
        refine xthen_normal ?_
        refine xc_seq ?_
        refine xc_region ?_
        refine xl_pure rfl rfl rfl (pv_assign (v := .bool _) rfl rfl) ?_
        refine xl_nil ?_
        refine xthen_normal ?_
        refine xc_ret ?_
        refine fin_ret (res1 (v := .bool _) rfl rfl) ?_
        exact ⟨true, rfl, ⟨fun _ => heq.2 (by rw [List.drop_of_length_le (by omega), List.drop_of_length_le (by omega)]), fun _ => rfl⟩, rfl⟩
  · skip
    refine xl_nil ?_
    refine xthen_normal ?_
    refine xc_cond_t rfl ?_
    refine xc_seq ?_
    refine xc_region ?_
    refine xl_pure rfl rfl rfl (pv_assign (v := .bool _) rfl rfl) ?_
    refine xl_nil ?_
    refine xthen_normal ?_
    refine xc_ret ?_
    refine xthen_ret ?_
    refine fin_ret (res1 (v := .bool _) rfl rfl) ?_
    exact ⟨false, rfl, ⟨fun h => absurd h (by decide), fun h => by subst h; omega⟩, rfl⟩

theorem gCheck {O : Outer} {H : Heap} (l : List Stack) (a : Option Addr) (c : Nat) (m : Int) (hs : Stks H a l) (hl : l.length < 4611686018427387904) :
    FnC Try.prog 51 #[.slice a l.length c, .int .i64 m] O H (fun v H' => ∃ e, v = .int .i64 e ∧ (Goods l m ∧ e = 0 ∨ ¬ Goods l m ∧ e = 1) ∧ Ext H H') := by
  refine fn_enter (A := [.slice a l.length c, .int .i64 m]) Try.func51 rfl rfl ?_
  refine xc_seq ?_
  refine xc_region ?_
  refine xl_pure rfl rfl rfl (pv_assign (v := .int _ _) rfl rfl) ?_
  refine xl_nil ?_
  refine xthen_normal ?_
  refine xc_seq ?_
  refine xc_region ?_
  refine xl_pure rfl rfl rfl (pv_assign (v := .int _ _) rfl rfl) ?_
  refine xl_nil ?_
  refine xthen_normal ?_
  refine xc_seq ?_
  refine xc_seq ?_
  refine xc_region ?_
  refine xl_pure rfl rfl rfl (pv_move (v := .slice _ _ _) rfl rfl) ?_
  refine xl_pure rfl rfl rfl (pv_len_l rfl rfl) ?_
  refine xl_pure rfl rfl rfl (pv_move (v := .int _ _) rfl rfl) ?_
  refine xl_nil ?_
  refine xthen_normal ?_
  refine xc_block ?_
  refine xc_loop (τ := Int × Nat) (fun t => [(0, .slice a l.length c), (1, .int .i64 m), (5, .int .i64 t.1), (8, .slice a l.length c), (9, .int .i64 (l.length : Nat)), (10, .int .i64 (t.2 : Nat))]) (fun t H' => t.2 ≤ l.length ∧ (Asc m 0 l ↔ Asc m t.1 (l.drop t.2)) ∧ Ext H H') (fun t H' => l.length - t.2) (0, 0) ?_ ?_ ?_
  · exact ⟨rfl, rfl, rfl, rfl, rfl, rfl, trivial⟩
  · skip
    exact ⟨Nat.zero_le _, Iff.rfl, Ext.refl _⟩
  · intro σ
    rintro ⟨last, k⟩ Hl ⟨hk, heq, hX⟩
    simp only at hk heq
    show XC _ _ _ (upds σ [(0, .slice a l.length c), (1, .int .i64 m), (5, .int .i64 last), (8, .slice a l.length c), (9, .int .i64 (l.length : Nat)), (10, .int .i64 (k : Nat))]) _
    refine xc_seq ?_
    refine xc_region ?_
    refine xl_dec rfl rfl rfl (pv_lss rfl rfl rfl) (fun h3_0 => ?_) (fun h3_0 => ?_)
    · skip
      refine xl_nil ?_
      refine xthen_normal ?_
      refine xc_seq ?_
      refine xc_cond_t rfl ?_
      refine xc_skip ?_
      refine xthen_normal ?_
      refine xc_seq ?_
      refine xc_block ?_
      refine xc_seq ?_
      obtain ⟨ba, off, rfl, hsa⟩ := hs.resolve_left (by omega)
      refine xc_region ?_
      refine xl_pure rfl rfl rfl (pv_indexAddr_l rfl rfl rfl (by omega)) ?_
      refine xl_light rfl rfl rfl (lv_load (v := .agg _) rfl rfl (by first | exact ld_stk (k := k) (hsa.ext hX) (by omega))) ?_
      refine xl_heavy rfl rfl rfl (hv_alloc rfl rfl) ?_
      rintro v4_2 H4_2 ⟨b4_2, rfl, hN4_2⟩
      have hge := Nat.le_trans hX.size hN4_2.ge
      have hX := hX.trans hN4_2.ext
      have hr := hN4_2.blk
      refine xl_store rfl rfl (hv_storeA (vs := [.int _ _, .int _ _]) rfl rfl rfl (by first | exact hr) rfl (by rfl) rfl) ?_
      rintro v4_3 H4_3 ⟨hU4_3, hZ4_3⟩
      have hX := hX.ofBut hU4_3.but hge
      have hr := hU4_3.blk
      refine xl_nil ?_
      refine xthen_normal ?_
      refine xc_seq ?_
      refine xc_seq ?_
      refine xc_region ?_
      refine xl_pure rfl rfl rfl (pv_fieldAddr rfl rfl) ?_
      refine xl_light rfl rfl rfl (lv_load (v := .int _ _) rfl rfl (by first | exact ld_blk hr rfl)) ?_
      refine xl_pure rfl rfl rfl (pv_move (v := .int _ _) rfl rfl) ?_
      refine xl_dec rfl rfl rfl (pv_leq rfl rfl rfl) (fun h5_3 => ?_) (fun h5_3 => ?_)
      · skip
        refine xl_pure rfl rfl rfl (pv_move (v := .bool _) rfl rfl) ?_
        refine xl_skip rfl rfl rfl ?_
        refine xl_skip rfl rfl rfl ?_
        refine xl_skip rfl rfl rfl ?_
        refine xl_skip rfl rfl rfl ?_
        refine xl_pure rfl rfl rfl (pv_pick_t (v := .bool _) rfl rfl rfl) ?_
        refine xl_pure rfl rfl rfl (pv_move (v := .bool _) rfl rfl) ?_
        refine xl_skip rfl rfl rfl ?_
        refine xl_skip rfl rfl rfl ?_
        refine xl_skip rfl rfl rfl ?_
        refine xl_pure rfl rfl rfl (pv_pick_t (v := .bool _) rfl rfl rfl) ?_
        refine xl_pure rfl rfl rfl (pv_move (v := .bool _) rfl rfl) ?_
        refine xl_skip rfl rfl rfl ?_
        refine xl_skip rfl rfl rfl ?_
        refine xl_skip rfl rfl rfl ?_
        refine xl_pure rfl rfl rfl (pv_pick_t (v := .bool _) rfl rfl rfl) ?_
        refine xl_nil ?_
        refine xthen_normal ?_
        refine xc_cond_t rfl ?_
        refine xc_seq ?_
        refine xc_region ?_
        refine xl_pure rfl rfl rfl (pv_assign (v := .int _ _) rfl rfl) ?_
        refine xl_nil ?_
        refine xthen_normal ?_
        refine xc_ret ?_
        refine xthen_ret ?_
        refine xblock_ret ?_
        refine xthen_ret ?_
        refine xthen_ret ?_
        refine xblock_ret ?_
        refine xthen_ret ?_
        refine fin_ret (res1 (v := .int _ _) rfl rfl) ?_
        exact ⟨1, rfl, .inr ⟨fun h => by have h := (asc_drop (by omega)).1 (heq.1 h.1); omega, rfl⟩, hX⟩
      · skip
        refine xl_pure rfl rfl rfl (pv_move (v := .bool _) rfl rfl) ?_
        refine xl_pure rfl rfl rfl (pv_fieldAddr rfl rfl) ?_
        refine xl_light rfl rfl rfl (lv_load (v := .int _ _) rfl rfl (by first | exact ld_blk hr rfl)) ?_
        refine xl_pure rfl rfl rfl (pv_move (v := .int _ _) rfl rfl) ?_
        refine xl_dec rfl rfl rfl (pv_gtr rfl rfl rfl) (fun h5_8 => ?_) (fun h5_8 => ?_)
        · skip
          refine xl_pure rfl rfl rfl (pv_pick_f (v := .bool _) rfl rfl rfl) ?_
          refine xl_pure rfl rfl rfl (pv_move (v := .bool _) rfl rfl) ?_
          refine xl_skip rfl rfl rfl ?_
          refine xl_skip rfl rfl rfl ?_
          refine xl_skip rfl rfl rfl ?_
          refine xl_pure rfl rfl rfl (pv_pick_t (v := .bool _) rfl rfl rfl) ?_
          refine xl_pure rfl rfl rfl (pv_move (v := .bool _) rfl rfl) ?_
          refine xl_skip rfl rfl rfl ?_
          refine xl_skip rfl rfl rfl ?_
          refine xl_skip rfl rfl rfl ?_
          refine xl_pure rfl rfl rfl (pv_pick_t (v := .bool _) rfl rfl rfl) ?_
          refine xl_nil ?_
          refine xthen_normal ?_
          refine xc_cond_t rfl ?_
          refine xc_seq ?_
          refine xc_region ?_
          refine xl_pure rfl rfl rfl (pv_assign (v := .int _ _) rfl rfl) ?_
          refine xl_nil ?_
          refine xthen_normal ?_
          refine xc_ret ?_
          refine xthen_ret ?_
          refine xblock_ret ?_
          refine xthen_ret ?_
          refine xthen_ret ?_
          refine xblock_ret ?_
          refine xthen_ret ?_
          refine fin_ret (res1 (v := .int _ _) rfl rfl) ?_
          exact ⟨1, rfl, .inr ⟨fun h => by have h := (asc_drop (by omega)).1 (heq.1 h.1); omega, rfl⟩, hX⟩
        · skip
          refine xl_pure rfl rfl rfl (pv_pick_f (v := .bool _) rfl rfl rfl) ?_
          refine xl_pure rfl rfl rfl (pv_move (v := .bool _) rfl rfl) ?_
          refine xl_pure rfl rfl rfl (pv_fieldAddr rfl rfl) ?_
          refine xl_light rfl rfl rfl (lv_load (v := .int _ _) rfl rfl (by first | exact ld_blk hr rfl)) ?_
          refine xl_dec rfl rfl rfl (pv_lss rfl rfl rfl) (fun h5_13 => ?_) (fun h5_13 => ?_)
          · skip
            refine xl_pure rfl rfl rfl (pv_pick_f (v := .bool _) rfl rfl rfl) ?_
            refine xl_pure rfl rfl rfl (pv_move (v := .bool _) rfl rfl) ?_
            refine xl_skip rfl rfl rfl ?_
            refine xl_skip rfl rfl rfl ?_
            refine xl_skip rfl rfl rfl ?_
            refine xl_pure rfl rfl rfl (pv_pick_t (v := .bool _) rfl rfl rfl) ?_
            refine xl_nil ?_
            refine xthen_normal ?_
            refine xc_cond_t rfl ?_
            refine xc_seq ?_
            refine xc_region ?_
            refine xl_pure rfl rfl rfl (pv_assign (v := .int _ _) rfl rfl) ?_
            refine xl_nil ?_
            refine xthen_normal ?_
            refine xc_ret ?_
            refine xthen_ret ?_
            refine xblock_ret ?_
            refine xthen_ret ?_
            refine xthen_ret ?_
            refine xblock_ret ?_
            refine xthen_ret ?_
            refine fin_ret (res1 (v := .int _ _) rfl rfl) ?_
            exact ⟨1, rfl, .inr ⟨fun h => by have h := (asc_drop (by omega)).1 (heq.1 h.1); omega, rfl⟩, hX⟩
          · skip
            refine xl_pure rfl rfl rfl (pv_pick_f (v := .bool _) rfl rfl rfl) ?_
            refine xl_pure rfl rfl rfl (pv_move (v := .bool _) rfl rfl) ?_
            refine xl_pure rfl rfl rfl (pv_fieldAddr rfl rfl) ?_
            refine xl_light rfl rfl rfl (lv_load (v := .int _ _) rfl rfl (by first | exact ld_blk hr rfl)) ?_
            refine xl_dec rfl rfl rfl (pv_gtr rfl rfl rfl) (fun h5_18 => ?_) (fun h5_18 => ?_)
            · skip
              refine xl_pure rfl rfl rfl (pv_pick_f (v := .bool _) rfl rfl rfl) ?_
              refine xl_nil ?_
              refine xthen_normal ?_
              refine xc_cond_t rfl ?_
              refine xc_seq ?_
              refine xc_region ?_
              refine xl_pure rfl rfl rfl (pv_assign (v := .int _ _) rfl rfl) ?_
              refine xl_nil ?_
              refine xthen_normal ?_
              refine xc_ret ?_
              refine xthen_ret ?_
              refine xblock_ret ?_
              refine xthen_ret ?_
              refine xthen_ret ?_
              refine xblock_ret ?_
              refine xthen_ret ?_
              refine fin_ret (res1 (v := .int _ _) rfl rfl) ?_
              exact ⟨1, rfl, .inr ⟨fun h => by have h := (asc_drop (by omega)).1 (heq.1 h.1); omega, rfl⟩, hX⟩
            · skip
              refine xl_pure rfl rfl rfl (pv_pick_f (v := .bool _) rfl rfl rfl) ?_
              refine xl_nil ?_
              refine xthen_normal ?_
              refine xc_cond_f rfl ?_
              refine xc_skip ?_
              refine xthen_normal ?_
              refine xc_region ?_
              refine xl_pure rfl rfl rfl (pv_fieldAddr rfl rfl) ?_
              refine xl_light rfl rfl rfl (lv_load (v := .int _ _) rfl rfl (by first | exact ld_blk hr rfl)) ?_
              refine xl_pure rfl rfl rfl (pv_assign (v := .int _ _) rfl rfl) ?_
              refine xl_nil ?_
              refine xblock_normal ?_
              refine xthen_normal ?_
              refine xc_region ?_
              refine xl_pure rfl rfl rfl (pv_add rfl rfl rfl (fit_i64 (by omega))) ?_
              refine xl_pure rfl rfl rfl (pv_move (v := .int _ _) rfl rfl) ?_
              refine xl_nil ?_
              refine xthen_normal ?_
              exact ⟨(_, k + 1), ⟨rfl, rfl, rfl, rfl, rfl, rfl, trivial⟩, ⟨by omega, by rw [heq, asc_drop (by omega)]; exact ⟨fun h => h.2.2.2.2, fun h => ⟨by omega, by omega, by omega, by omega, h⟩⟩, hX⟩, by simp only; omega⟩
    · skip
      refine xl_nil ?_
      refine xthen_normal ?_
      refine xc_seq ?_
      refine xc_cond_f rfl ?_
      refine xc_exit ?_
      refine xthen_exit ?_
      refine xthen_exit ?_
      refine xblock_same ?_
      refine xthen_normal ?_
      refine xc_seq ?_
      refine xc_seq ?_
      refine xc_region ?_
      refine xl_pure rfl rfl rfl (pv_move (v := .slice _ _ _) rfl rfl) ?_
      refine xl_pure rfl rfl rfl (pv_len_l rfl rfl) ?_
      refine xl_dec rfl rfl rfl (pv_gtr rfl rfl rfl) (fun h9_2 => ?_) (fun h9_2 => ?_)
      · skip
        refine xl_nil ?_
        refine xthen_normal ?_
        refine xc_cond_t rfl ?_
        refine xc_seq ?_
        refine xc_region ?_
        refine xl_pure rfl rfl rfl (pv_assign (v := .int _ _) rfl rfl) ?_
        refine xl_nil ?_
        refine xthen_normal ?_
        refine xc_ret ?_
        refine xthen_ret ?_
        refine fin_ret (res1 (v := .int _ _) rfl rfl) ?_
        exact ⟨1, rfl, .inr ⟨fun h => by have h := h.2; omega, rfl⟩, hX⟩
      · skip
        refine xl_nil ?_
        refine xthen_normal ?_
        refine xc_cond_f rfl ?_
        refine xc_skip ?_
        refine xthen_normal ?_
        refine xc_seq ?_
        refine xc_region ?_
        refine xl_pure rfl rfl rfl (pv_assign (v := .int _ _) rfl rfl) ?_
        refine xl_nil ?_
        refine xthen_normal ?_
        refine xc_ret ?_
        refine fin_ret (res1 (v := .int _ _) rfl rfl) ?_
        exact ⟨0, rfl, .inl ⟨⟨heq.2 (asc_end (by omega)), by omega⟩, rfl⟩, hX⟩

theorem gNorm {O : Outer} {H : Heap} (l : List Stack) (a : Option Addr) (c : Nat) (hs : Stks H a l) (hl : l.length < 1099511627776) :
    FnC Try.prog 59 #[.slice a l.length c] O H (fun v H' => ∃ e out a' c', v = .tuple #[.slice a' (List.length out) c', .int .i64 e] ∧ List.length out ≤ l.length ∧ (e = 0 ∧ Up 0 out ∧ Stks H' a' out ∧ (Up 0 l → out = l) ∨ e ≠ 0 ∧ ¬ Up 0 l) ∧ Ext H H') := by
  refine fn_enter (A := [.slice a l.length c]) Try.func59 rfl rfl ?_
  refine xc_seq ?_
  refine xc_region ?_
  refine xl_pure rfl rfl rfl (pv_assign (v := .slice _ _ _) rfl rfl) ?_
  refine xl_pure rfl rfl rfl (pv_assign (v := .int _ _) rfl rfl) ?_
  refine xl_nil ?_
  refine xthen_normal ?_
  refine xc_seq ?_
  refine xc_seq ?_
  refine xc_region ?_
  refine xl_pure rfl rfl rfl (pv_assign (v := .int _ _) rfl rfl) ?_
  refine xl_nil ?_
  refine xthen_normal ?_
  refine xc_block ?_
  refine xc_loop (τ := Nat) (fun t => [(0, .slice a l.length c), (4, .int .i64 (t : Nat))]) (fun t H' => t ≤ l.length ∧ (∀ i, i < t → 1 ≤ gx l i ∧ 0 ≤ gq l i) ∧ H = H') (fun t H' => l.length - t) 0 ?_ ?_ ?_
  · exact ⟨rfl, rfl, trivial⟩
  · skip
    exact ⟨Nat.zero_le _, fun i hi => absurd hi (by omega), rfl⟩
  · intro σ
    rintro k Hl ⟨hk, hall, rfl⟩
    show XC _ _ _ (upds σ [(0, .slice a l.length c), (4, .int .i64 (k : Nat))]) _
    refine xc_seq ?_
    refine xc_seq ?_
    refine xc_region ?_
    refine xl_pure rfl rfl rfl (pv_move (v := .int _ _) rfl rfl) ?_
    refine xl_pure rfl rfl rfl (pv_move (v := .slice _ _ _) rfl rfl) ?_
    refine xl_pure rfl rfl rfl (pv_len_l rfl rfl) ?_
    refine xl_dec rfl rfl rfl (pv_lss rfl rfl rfl) (fun h2_3 => ?_) (fun h2_3 => ?_)
    · skip
      refine xl_nil ?_
      refine xthen_normal ?_
      refine xc_cond_t rfl ?_
      refine xc_skip ?_
      refine xthen_normal ?_
      refine xc_seq ?_
      refine xc_block ?_
      refine xc_seq ?_
      obtain ⟨ba, off, hae, hsa⟩ := hs.resolve_left (by omega)
      subst hae
      refine xc_region ?_
      refine xl_pure rfl rfl rfl (pv_move (v := .slice _ _ _) rfl rfl) ?_
      refine xl_pure rfl rfl rfl (pv_move (v := .int _ _) rfl rfl) ?_
      refine xl_pure rfl rfl rfl (pv_indexAddr_l rfl rfl rfl (by omega)) ?_
      refine xl_pure rfl rfl rfl (pv_fieldAddr rfl rfl) ?_
      refine xl_light rfl rfl rfl (lv_load (v := .int _ _) rfl rfl (by first | exact (hsa k (by omega)).1)) ?_
      refine xl_dec rfl rfl rfl (pv_lss rfl rfl rfl) (fun h4_5 => ?_) (fun h4_5 => ?_)
      · skip
        refine xl_pure rfl rfl rfl (pv_move (v := .bool _) rfl rfl) ?_
        refine xl_skip rfl rfl rfl ?_
        refine xl_skip rfl rfl rfl ?_
        refine xl_skip rfl rfl rfl ?_
        refine xl_skip rfl rfl rfl ?_
        refine xl_skip rfl rfl rfl ?_
        refine xl_skip rfl rfl rfl ?_
        refine xl_pure rfl rfl rfl (pv_pick_t (v := .bool _) rfl rfl rfl) ?_
        refine xl_nil ?_
        refine xthen_normal ?_
        refine xc_cond_t rfl ?_
        refine xc_seq ?_
        refine xc_region ?_
        refine xl_pure rfl rfl rfl (pv_assign (v := .slice _ _ _) rfl rfl) ?_
        refine xl_pure rfl rfl rfl (pv_assign (v := .int _ _) rfl rfl) ?_
        refine xl_nil ?_
        refine xthen_normal ?_
        refine xc_ret ?_
        refine xblock_ret ?_
        refine xthen_ret ?_
        refine xthen_ret ?_
        refine xblock_ret ?_
        refine xthen_ret ?_
        refine fin_ret (res2 (v := .slice _ _ _) (x := .int _ _) rfl rfl rfl) ?_
        exact ⟨1, [], none, 0, rfl, Nat.zero_le _, .inr ⟨by decide, fun hu => by have := up_get hu (show k < l.length by omega); omega⟩, Ext.refl _⟩
      · skip
        refine xl_pure rfl rfl rfl (pv_move (v := .bool _) rfl rfl) ?_
        refine xl_pure rfl rfl rfl (pv_move (v := .slice _ _ _) rfl rfl) ?_
        refine xl_pure rfl rfl rfl (pv_move (v := .int _ _) rfl rfl) ?_
        refine xl_pure rfl rfl rfl (pv_indexAddr_l rfl rfl rfl (by omega)) ?_
        refine xl_pure rfl rfl rfl (pv_fieldAddr rfl rfl) ?_
        refine xl_light rfl rfl rfl (lv_load (v := .int _ _) rfl rfl (by first | exact (hsa k (by omega)).2)) ?_
        refine xl_dec rfl rfl rfl (pv_lss rfl rfl rfl) (fun h4_12 => ?_) (fun h4_12 => ?_)
        · skip
          refine xl_pure rfl rfl rfl (pv_pick_f (v := .bool _) rfl rfl rfl) ?_
          refine xl_nil ?_
          refine xthen_normal ?_
          refine xc_cond_t rfl ?_
          refine xc_seq ?_
          refine xc_region ?_
          refine xl_pure rfl rfl rfl (pv_assign (v := .slice _ _ _) rfl rfl) ?_
          refine xl_pure rfl rfl rfl (pv_assign (v := .int _ _) rfl rfl) ?_
          refine xl_nil ?_
          refine xthen_normal ?_
          refine xc_ret ?_
          refine xblock_ret ?_
          refine xthen_ret ?_
          refine xthen_ret ?_
          refine xblock_ret ?_
          refine xthen_ret ?_
          refine fin_ret (res2 (v := .slice _ _ _) (x := .int _ _) rfl rfl rfl) ?_
          exact ⟨1, [], none, 0, rfl, Nat.zero_le _, .inr ⟨by decide, fun hu => by have := up_get hu (show k < l.length by omega); omega⟩, Ext.refl _⟩
        · skip
          refine xl_pure rfl rfl rfl (pv_pick_f (v := .bool _) rfl rfl rfl) ?_
          refine xl_nil ?_
          refine xthen_normal ?_
          refine xc_cond_f rfl ?_
          refine xc_skip ?_
          refine xblock_normal ?_
          refine xthen_normal ?_
          refine xc_region ?_
          refine xl_pure rfl rfl rfl (pv_move (v := .int _ _) rfl rfl) ?_
          refine xl_pure rfl rfl rfl (pv_add rfl rfl rfl (fit_i64 (by omega))) ?_
          refine xl_pure rfl rfl rfl (pv_assign (v := .int _ _) rfl rfl) ?_
          refine xl_nil ?_
          refine xthen_normal ?_
          exact ⟨k + 1, ⟨rfl, rfl, trivial⟩, ⟨by omega, fun i hi => by rcases Nat.lt_or_eq_of_le (Nat.le_of_lt_succ hi) with h | h; exact hall i h; subst h; omega, rfl⟩, by omega⟩
    · skip
      refine xl_nil ?_
      refine xthen_normal ?_
      refine xc_cond_f rfl ?_
      refine xc_exit ?_
      refine xthen_exit ?_
      refine xthen_exit ?_
      refine xblock_same ?_
      refine xthen_normal ?_
      refine xc_seq ?_
      have hall : ∀ i, i < l.length → 1 ≤ gx l i ∧ 0 ≤ gq l i := fun i hi => hall i (by omega)
      refine xc_region ?_
      refine xl_pure rfl rfl rfl (pv_assign (v := .slice _ _ _) rfl rfl) ?_
      refine xl_nil ?_
      refine xthen_normal ?_
      refine xc_seq ?_
      refine xc_region ?_
      refine xl_pure rfl rfl rfl (pv_assign (v := .int _ _) rfl rfl) ?_
      refine xl_nil ?_
      refine xthen_normal ?_
      refine xc_block ?_
      refine xc_loop (τ := List Stack × Value × Int) (fun t => [(0, .slice a l.length c), (5, t.2.1), (6, .int .i64 t.2.2)]) (fun t H' => NI l t.1 t.2.2 ∧ Own H' H.size 44 2 t.2.1 t.1.length (fl t.1) ∧ Ext H H') (fun t H' => cnt l t.2.2) ([], .slice none 0 0, 0) ?_ ?_ ?_
      · exact ⟨rfl, rfl, rfl, trivial⟩
      · skip
        exact ⟨ni_start l, Own.nil .., Ext.refl _⟩
      · intro σ
        rintro ⟨out, vo, last⟩ Hl ⟨hni, hown, hX⟩
        simp only at hni hown
        have hp0 := hni.pos
        have hcn := hni.count
        obtain ⟨va, vc, rfl⟩ := hown.val
        show XC _ _ _ (upds σ [(0, .slice a l.length c), (5, .slice va out.length vc), (6, .int .i64 last)]) _
        refine xc_block ?_
        refine xc_seq ?_
        refine xc_region ?_
        refine xl_pure rfl rfl rfl (pv_assign (v := .int _ _) rfl rfl) ?_
        refine xl_nil ?_
        refine xthen_normal ?_
        refine xc_seq ?_
        refine xc_seq ?_
        refine xc_region ?_
        refine xl_pure rfl rfl rfl (pv_assign (v := .int _ _) rfl rfl) ?_
        refine xl_nil ?_
        refine xthen_normal ?_
        refine xc_block ?_
        refine xc_loop (τ := Int × Nat) (fun t => [(0, .slice a l.length c), (5, .slice va out.length vc), (6, .int .i64 last), (7, .int .i64 t.1), (8, .int .i64 (t.2 : Nat))]) (fun t H' => t.2 ≤ l.length ∧ Least l last t.1 t.2 ∧ Hl = H') (fun t H' => l.length - t.2) (0, 0) ?_ ?_ ?_
        · exact ⟨rfl, rfl, rfl, rfl, rfl, trivial⟩
        · skip
          exact ⟨Nat.zero_le _, .inl ⟨rfl, fun i hi => absurd hi (by omega)⟩, rfl⟩
        · intro σ
          rintro ⟨kind, k⟩ Hm ⟨hk, hlst, rfl⟩
          simp only at hk hlst
          show XC _ _ _ (upds σ [(0, .slice a l.length c), (5, .slice va out.length vc), (6, .int .i64 last), (7, .int .i64 kind), (8, .int .i64 (k : Nat))]) _
          refine xc_seq ?_
          refine xc_seq ?_
          refine xc_region ?_
          refine xl_pure rfl rfl rfl (pv_move (v := .int _ _) rfl rfl) ?_
          refine xl_pure rfl rfl rfl (pv_move (v := .slice _ _ _) rfl rfl) ?_
          refine xl_pure rfl rfl rfl (pv_len_l rfl rfl) ?_
          refine xl_dec rfl rfl rfl (pv_lss rfl rfl rfl) (fun h10_3 => ?_) (fun h10_3 => ?_)
          · skip
            refine xl_nil ?_
            refine xthen_normal ?_
            refine xc_cond_t rfl ?_
            refine xc_skip ?_
            refine xthen_normal ?_
            refine xc_seq ?_
            refine xc_block ?_
            refine xc_seq ?_
            obtain ⟨ba, off, hae, hsa⟩ := hs.resolve_left (by omega)
            subst hae
            refine xc_region ?_
            refine xl_pure rfl rfl rfl (pv_move (v := .slice _ _ _) rfl rfl) ?_
            refine xl_pure rfl rfl rfl (pv_move (v := .int _ _) rfl rfl) ?_
            refine xl_pure rfl rfl rfl (pv_indexAddr_l rfl rfl rfl (by omega)) ?_
            refine xl_pure rfl rfl rfl (pv_fieldAddr rfl rfl) ?_
            refine xl_light rfl rfl rfl (lv_load (v := .int _ _) rfl rfl (by first | exact cellAt_ext (hsa k (by omega)).1 hX)) ?_
            refine xl_pure rfl rfl rfl (pv_move (v := .int _ _) rfl rfl) ?_
            refine xl_dec rfl rfl rfl (pv_gtr rfl rfl rfl) (fun h12_6 => ?_) (fun h12_6 => ?_)
            · skip
              refine xl_pure rfl rfl rfl (pv_move (v := .bool _) rfl rfl) ?_
              refine xl_pure rfl rfl rfl (pv_move (v := .int _ _) rfl rfl) ?_
              refine xl_dec rfl rfl rfl (pv_eql rfl rfl rfl) (fun h12_9 => ?_) (fun h12_9 => ?_)
              · skip
                refine xl_pure rfl rfl rfl (pv_move (v := .bool _) rfl rfl) ?_
                refine xl_skip rfl rfl rfl ?_
                refine xl_skip rfl rfl rfl ?_
                refine xl_skip rfl rfl rfl ?_
                refine xl_skip rfl rfl rfl ?_
                refine xl_skip rfl rfl rfl ?_
                refine xl_skip rfl rfl rfl ?_
                refine xl_skip rfl rfl rfl ?_
                refine xl_pure rfl rfl rfl (pv_pick_t (v := .bool _) rfl rfl rfl) ?_
                refine xl_pure rfl rfl rfl (pv_pick_t (v := .bool _) rfl rfl rfl) ?_
                refine xl_nil ?_
                refine xthen_normal ?_
                refine xc_cond_t rfl ?_
                refine xc_region ?_
                refine xl_pure rfl rfl rfl (pv_move (v := .slice _ _ _) rfl rfl) ?_
                refine xl_pure rfl rfl rfl (pv_move (v := .int _ _) rfl rfl) ?_
                refine xl_pure rfl rfl rfl (pv_indexAddr_l rfl rfl rfl (by omega)) ?_
                refine xl_pure rfl rfl rfl (pv_fieldAddr rfl rfl) ?_
                refine xl_light rfl rfl rfl (lv_load (v := .int _ _) rfl rfl (by first | exact cellAt_ext (hsa k (by omega)).1 hX)) ?_
                refine xl_pure rfl rfl rfl (pv_assign (v := .int _ _) rfl rfl) ?_
                refine xl_nil ?_
                refine xblock_normal ?_
                refine xthen_normal ?_
                refine xc_region ?_
                refine xl_pure rfl rfl rfl (pv_move (v := .int _ _) rfl rfl) ?_
                refine xl_pure rfl rfl rfl (pv_add rfl rfl rfl (fit_i64 (by omega))) ?_
                refine xl_pure rfl rfl rfl (pv_assign (v := .int _ _) rfl rfl) ?_
                refine xl_nil ?_
                refine xthen_normal ?_
                first
                  | exact ⟨(_, k + 1), ⟨rfl, rfl, rfl, rfl, rfl, trivial⟩, ⟨by omega, least_take hlst hp0 (by omega) (by omega), rfl⟩, by simp only; omega⟩
                  | exact ⟨(_, k + 1), ⟨rfl, rfl, rfl, rfl, rfl, trivial⟩, ⟨by omega, least_skip hlst (by omega), rfl⟩, by simp only; omega⟩
              · skip
                refine xl_pure rfl rfl rfl (pv_move (v := .bool _) rfl rfl) ?_
                refine xl_pure rfl rfl rfl (pv_move (v := .slice _ _ _) rfl rfl) ?_
                refine xl_pure rfl rfl rfl (pv_move (v := .int _ _) rfl rfl) ?_
                refine xl_pure rfl rfl rfl (pv_indexAddr_l rfl rfl rfl (by omega)) ?_
                refine xl_pure rfl rfl rfl (pv_fieldAddr rfl rfl) ?_
                refine xl_light rfl rfl rfl (lv_load (v := .int _ _) rfl rfl (by first | exact cellAt_ext (hsa k (by omega)).1 hX)) ?_
                refine xl_pure rfl rfl rfl (pv_move (v := .int _ _) rfl rfl) ?_
                refine xl_dec rfl rfl rfl (pv_lss rfl rfl rfl) (fun h12_17 => ?_) (fun h12_17 => ?_)
                · skip
                  refine xl_pure rfl rfl rfl (pv_pick_f (v := .bool _) rfl rfl rfl) ?_
                  refine xl_pure rfl rfl rfl (pv_pick_t (v := .bool _) rfl rfl rfl) ?_
                  refine xl_nil ?_
                  refine xthen_normal ?_
                  refine xc_cond_t rfl ?_
                  refine xc_region ?_
                  refine xl_pure rfl rfl rfl (pv_move (v := .slice _ _ _) rfl rfl) ?_
                  refine xl_pure rfl rfl rfl (pv_move (v := .int _ _) rfl rfl) ?_
                  refine xl_pure rfl rfl rfl (pv_indexAddr_l rfl rfl rfl (by omega)) ?_
                  refine xl_pure rfl rfl rfl (pv_fieldAddr rfl rfl) ?_
                  refine xl_light rfl rfl rfl (lv_load (v := .int _ _) rfl rfl (by first | exact cellAt_ext (hsa k (by omega)).1 hX)) ?_
                  refine xl_pure rfl rfl rfl (pv_assign (v := .int _ _) rfl rfl) ?_
                  refine xl_nil ?_
                  refine xblock_normal ?_
                  refine xthen_normal ?_
                  refine xc_region ?_
                  refine xl_pure rfl rfl rfl (pv_move (v := .int _ _) rfl rfl) ?_
                  refine xl_pure rfl rfl rfl (pv_add rfl rfl rfl (fit_i64 (by omega))) ?_
                  refine xl_pure rfl rfl rfl (pv_assign (v := .int _ _) rfl rfl) ?_
                  refine xl_nil ?_
                  refine xthen_normal ?_
                  first
                    | exact ⟨(_, k + 1), ⟨rfl, rfl, rfl, rfl, rfl, trivial⟩, ⟨by omega, least_take hlst hp0 (by omega) (by omega), rfl⟩, by simp only; omega⟩
                    | exact ⟨(_, k + 1), ⟨rfl, rfl, rfl, rfl, rfl, trivial⟩, ⟨by omega, least_skip hlst (by omega), rfl⟩, by simp only; omega⟩
                · skip
                  refine xl_pure rfl rfl rfl (pv_pick_f (v := .bool _) rfl rfl rfl) ?_
                  refine xl_pure rfl rfl rfl (pv_pick_t (v := .bool _) rfl rfl rfl) ?_
                  refine xl_nil ?_
                  refine xthen_normal ?_
                  refine xc_cond_f rfl ?_
                  refine xc_skip ?_
                  refine xblock_normal ?_
                  refine xthen_normal ?_
                  refine xc_region ?_
                  refine xl_pure rfl rfl rfl (pv_move (v := .int _ _) rfl rfl) ?_
                  refine xl_pure rfl rfl rfl (pv_add rfl rfl rfl (fit_i64 (by omega))) ?_
                  refine xl_pure rfl rfl rfl (pv_assign (v := .int _ _) rfl rfl) ?_
                  refine xl_nil ?_
                  refine xthen_normal ?_
                  first
                    | exact ⟨(_, k + 1), ⟨rfl, rfl, rfl, rfl, rfl, trivial⟩, ⟨by omega, least_take hlst hp0 (by omega) (by omega), rfl⟩, by simp only; omega⟩
                    | exact ⟨(_, k + 1), ⟨rfl, rfl, rfl, rfl, rfl, trivial⟩, ⟨by omega, least_skip hlst (by omega), rfl⟩, by simp only; omega⟩
            · skip
              refine xl_pure rfl rfl rfl (pv_move (v := .bool _) rfl rfl) ?_
              refine xl_skip rfl rfl rfl ?_
              refine xl_skip rfl rfl rfl ?_
              refine xl_skip rfl rfl rfl ?_
              refine xl_skip rfl rfl rfl ?_
              refine xl_skip rfl rfl rfl ?_
              refine xl_skip rfl rfl rfl ?_
              refine xl_skip rfl rfl rfl ?_
              refine xl_skip rfl rfl rfl ?_
              refine xl_skip rfl rfl rfl ?_
              refine xl_skip rfl rfl rfl ?_
              refine xl_skip rfl rfl rfl ?_
              refine xl_pure rfl rfl rfl (pv_pick_f (v := .bool _) rfl rfl rfl) ?_
              refine xl_nil ?_
              refine xthen_normal ?_
              refine xc_cond_f rfl ?_
              refine xc_skip ?_
              refine xblock_normal ?_
              refine xthen_normal ?_
              refine xc_region ?_
              refine xl_pure rfl rfl rfl (pv_move (v := .int _ _) rfl rfl) ?_
              refine xl_pure rfl rfl rfl (pv_add rfl rfl rfl (fit_i64 (by omega))) ?_
              refine xl_pure rfl rfl rfl (pv_assign (v := .int _ _) rfl rfl) ?_
              refine xl_nil ?_
              refine xthen_normal ?_
              first
                | exact ⟨(_, k + 1), ⟨rfl, rfl, rfl, rfl, rfl, trivial⟩, ⟨by omega, least_take hlst hp0 (by omega) (by omega), rfl⟩, by simp only; omega⟩
                | exact ⟨(_, k + 1), ⟨rfl, rfl, rfl, rfl, rfl, trivial⟩, ⟨by omega, least_skip hlst (by omega), rfl⟩, by simp only; omega⟩
          · skip
            refine xl_nil ?_
            refine xthen_normal ?_
            refine xc_cond_f rfl ?_
            refine xc_exit ?_
            refine xthen_exit ?_
            refine xthen_exit ?_
            refine xblock_same ?_
            refine xthen_normal ?_
            refine xc_seq ?_
            refine xc_seq ?_
            have hk : k = l.length := by omega
            subst hk
            refine xc_region ?_
            refine xl_pure rfl rfl rfl (pv_move (v := .int _ _) rfl rfl) ?_
            refine xl_dec rfl rfl rfl (pv_eql rfl rfl rfl) (fun h14_1 => ?_) (fun h14_1 => ?_)
            · skip
              refine xl_nil ?_
              refine xthen_normal ?_
              refine xc_cond_t rfl ?_
              refine xc_seq ?_
              refine xc_region ?_
              refine xl_pure rfl rfl rfl (pv_move (v := .slice _ _ _) rfl rfl) ?_
              refine xl_pure rfl rfl rfl (pv_assign (v := .slice _ _ _) rfl rfl) ?_
              refine xl_pure rfl rfl rfl (pv_assign (v := .int _ _) rfl rfl) ?_
              refine xl_nil ?_
              refine xthen_normal ?_
              refine xc_ret ?_
              refine xthen_ret ?_
              refine xblock_ret ?_
              refine xthen_ret ?_
              refine xblock_ret ?_
              refine fin_ret (res2 (v := .slice _ _ _) (x := .int _ _) rfl rfl rfl) ?_
              exact ⟨0, out, va, vc, rfl, by omega, .inl ⟨rfl, hni.up, own_stks hown, hni.done (h14_1 ▸ hlst)⟩, hX⟩
            · skip
              refine xl_nil ?_
              refine xthen_normal ?_
              refine xc_cond_f rfl ?_
              refine xc_skip ?_
              refine xthen_normal ?_
              refine xc_seq ?_
              have hk0 : kind ≠ 0 := h14_1
              refine xc_region ?_
              refine xl_pure rfl rfl rfl (pv_assign (v := .int _ _) rfl rfl) ?_
              refine xl_nil ?_
              refine xthen_normal ?_
              refine xc_seq ?_
              refine xc_seq ?_
              refine xc_region ?_
              refine xl_pure rfl rfl rfl (pv_assign (v := .int _ _) rfl rfl) ?_
              refine xl_nil ?_
              refine xthen_normal ?_
              refine xc_block ?_
              refine xc_loop (τ := Int × Nat) (fun t => [(0, .slice a l.length c), (5, .slice va out.length vc), (6, .int .i64 last), (7, .int .i64 kind), (9, .int .i64 t.1), (10, .int .i64 (t.2 : Nat))]) (fun t H' => t.2 ≤ l.length ∧ Sum l out t.1 t.2 ∧ Hl = H') (fun t H' => l.length - t.2) (0, 0) ?_ ?_ ?_
              · exact ⟨rfl, rfl, rfl, rfl, rfl, rfl, trivial⟩
              · skip
                exact ⟨Nat.zero_le _, sum_start _ _, rfl⟩
              · intro σ
                rintro ⟨n, k⟩ Hm ⟨hk, hsum, rfl⟩
                simp only at hk hsum
                have hs0 := hsum.1
                have hs1 := hsum.2.1
                show XC _ _ _ (upds σ [(0, .slice a l.length c), (5, .slice va out.length vc), (6, .int .i64 last), (7, .int .i64 kind), (9, .int .i64 n), (10, .int .i64 (k : Nat))]) _
                refine xc_seq ?_
                refine xc_seq ?_
                refine xc_region ?_
                refine xl_pure rfl rfl rfl (pv_move (v := .int _ _) rfl rfl) ?_
                refine xl_pure rfl rfl rfl (pv_move (v := .slice _ _ _) rfl rfl) ?_
                refine xl_pure rfl rfl rfl (pv_len_l rfl rfl) ?_
                refine xl_dec rfl rfl rfl (pv_lss rfl rfl rfl) (fun h18_3 => ?_) (fun h18_3 => ?_)
                · skip
                  refine xl_nil ?_
                  refine xthen_normal ?_
                  refine xc_cond_t rfl ?_
                  refine xc_skip ?_
                  refine xthen_normal ?_
                  refine xc_seq ?_
                  refine xc_block ?_
                  refine xc_seq ?_
                  obtain ⟨ba, off, hae, hsa⟩ := hs.resolve_left (by omega)
                  subst hae
                  refine xc_region ?_
                  refine xl_pure rfl rfl rfl (pv_move (v := .slice _ _ _) rfl rfl) ?_
                  refine xl_pure rfl rfl rfl (pv_move (v := .int _ _) rfl rfl) ?_
                  refine xl_pure rfl rfl rfl (pv_indexAddr_l rfl rfl rfl (by omega)) ?_
                  refine xl_pure rfl rfl rfl (pv_fieldAddr rfl rfl) ?_
                  refine xl_light rfl rfl rfl (lv_load (v := .int _ _) rfl rfl (by first | exact cellAt_ext (hsa k (by omega)).1 hX)) ?_
                  refine xl_pure rfl rfl rfl (pv_move (v := .int _ _) rfl rfl) ?_
                  refine xl_dec rfl rfl rfl (pv_eql rfl rfl rfl) (fun h20_6 => ?_) (fun h20_6 => ?_)
                  · skip
                    refine xl_nil ?_
                    refine xthen_normal ?_
                    refine xc_cond_t rfl ?_
                    refine xc_seq ?_
                    refine xc_seq ?_
                    have hq0 := (hall k (by omega)).2
                    refine xc_region ?_
                    refine xl_pure rfl rfl rfl (pv_move (v := .slice _ _ _) rfl rfl) ?_
                    refine xl_pure rfl rfl rfl (pv_move (v := .int _ _) rfl rfl) ?_
                    refine xl_pure rfl rfl rfl (pv_indexAddr_l rfl rfl rfl (by omega)) ?_
                    refine xl_pure rfl rfl rfl (pv_fieldAddr rfl rfl) ?_
                    refine xl_light rfl rfl rfl (lv_load (v := .int _ _) rfl rfl (by first | exact cellAt_ext (hsa k (by omega)).2 hX)) ?_
                    refine xl_pure rfl rfl rfl (pv_move (v := .int _ _) rfl rfl) ?_
                    refine xl_pure rfl rfl rfl (pv_sub rfl rfl rfl (fit_i64 (by omega))) ?_
                    refine xl_dec rfl rfl rfl (pv_gtr rfl rfl rfl) (fun h21_7 => ?_) (fun h21_7 => ?_)
                    · skip
                      refine xl_nil ?_
                      refine xthen_normal ?_
                      refine xc_cond_t rfl ?_
                      refine xc_seq ?_
                      refine xc_region ?_
                      refine xl_pure rfl rfl rfl (pv_assign (v := .slice _ _ _) rfl rfl) ?_
                      refine xl_pure rfl rfl rfl (pv_assign (v := .int _ _) rfl rfl) ?_
                      refine xl_nil ?_
                      refine xthen_normal ?_
                      refine xc_ret ?_
                      refine xthen_ret ?_
                      refine xblock_ret ?_
                      refine xthen_ret ?_
                      refine xthen_ret ?_
                      refine xblock_ret ?_
                      refine xthen_ret ?_
                      refine xblock_ret ?_
                      refine xthen_ret ?_
                      refine xblock_ret ?_
                      refine fin_ret (res2 (v := .slice _ _ _) (x := .int _ _) rfl rfl rfl) ?_
                      exact ⟨5, [], none, 0, rfl, Nat.zero_le _, .inr ⟨by decide, sum_over hni hlst hk0 hsum (by omega) h20_6 (by omega)⟩, hX⟩
                    · skip
                      refine xl_nil ?_
                      refine xthen_normal ?_
                      refine xc_cond_f rfl ?_
                      refine xc_skip ?_
                      refine xthen_normal ?_
                      refine xc_region ?_
                      refine xl_pure rfl rfl rfl (pv_move (v := .int _ _) rfl rfl) ?_
                      refine xl_pure rfl rfl rfl (pv_move (v := .slice _ _ _) rfl rfl) ?_
                      refine xl_pure rfl rfl rfl (pv_move (v := .int _ _) rfl rfl) ?_
                      refine xl_pure rfl rfl rfl (pv_indexAddr_l rfl rfl rfl (by omega)) ?_
                      refine xl_pure rfl rfl rfl (pv_fieldAddr rfl rfl) ?_
                      refine xl_light rfl rfl rfl (lv_load (v := .int _ _) rfl rfl (by first | exact cellAt_ext (hsa k (by omega)).2 hX)) ?_
                      refine xl_pure rfl rfl rfl (pv_add rfl rfl rfl (fit_i64 (by omega))) ?_
                      refine xl_pure rfl rfl rfl (pv_assign (v := .int _ _) rfl rfl) ?_
                      refine xl_nil ?_
                      refine xblock_normal ?_
                      refine xthen_normal ?_
                      refine xc_region ?_
                      refine xl_pure rfl rfl rfl (pv_move (v := .int _ _) rfl rfl) ?_
                      refine xl_pure rfl rfl rfl (pv_add rfl rfl rfl (fit_i64 (by omega))) ?_
                      refine xl_pure rfl rfl rfl (pv_assign (v := .int _ _) rfl rfl) ?_
                      refine xl_nil ?_
                      refine xthen_normal ?_
                      first
                        | exact ⟨(_, k + 1), ⟨rfl, rfl, rfl, rfl, rfl, rfl, trivial⟩, ⟨by omega, sum_take hni hlst hk0 hsum (by omega) h20_6 (hall k (by omega)).2 (by omega), rfl⟩, by simp only; omega⟩
                        | exact ⟨(_, k + 1), ⟨rfl, rfl, rfl, rfl, rfl, rfl, trivial⟩, ⟨by omega, sum_skip hni hlst hk0 hsum h20_6, rfl⟩, by simp only; omega⟩
                  · skip
                    refine xl_nil ?_
                    refine xthen_normal ?_
                    refine xc_cond_f rfl ?_
                    refine xc_skip ?_
                    refine xblock_normal ?_
                    refine xthen_normal ?_
                    refine xc_region ?_
                    refine xl_pure rfl rfl rfl (pv_move (v := .int _ _) rfl rfl) ?_
                    refine xl_pure rfl rfl rfl (pv_add rfl rfl rfl (fit_i64 (by omega))) ?_
                    refine xl_pure rfl rfl rfl (pv_assign (v := .int _ _) rfl rfl) ?_
                    refine xl_nil ?_
                    refine xthen_normal ?_
                    first
                      | exact ⟨(_, k + 1), ⟨rfl, rfl, rfl, rfl, rfl, rfl, trivial⟩, ⟨by omega, sum_take hni hlst hk0 hsum (by omega) h20_6 (hall k (by omega)).2 (by omega), rfl⟩, by simp only; omega⟩
                      | exact ⟨(_, k + 1), ⟨rfl, rfl, rfl, rfl, rfl, rfl, trivial⟩, ⟨by omega, sum_skip hni hlst hk0 hsum h20_6, rfl⟩, by simp only; omega⟩
                · skip
                  refine xl_nil ?_
                  refine xthen_normal ?_
                  refine xc_cond_f rfl ?_
                  refine xc_exit ?_
                  refine xthen_exit ?_
                  refine xthen_exit ?_
                  refine xblock_same ?_
                  refine xthen_normal ?_
                  refine xc_seq ?_
                  refine xc_seq ?_
                  have hk : k = l.length := by omega
                  subst hk
                  refine xc_region ?_
                  refine xl_pure rfl rfl rfl (pv_move (v := .int _ _) rfl rfl) ?_
                  refine xl_dec rfl rfl rfl (pv_gtr rfl rfl rfl) (fun h24_1 => ?_) (fun h24_1 => ?_)
                  · skip
                    refine xl_nil ?_
                    refine xthen_normal ?_
                    refine xc_cond_t rfl ?_
                    have hol : out.length ≤ l.length := by omega
                    refine xc_region ?_
                    refine xl_pure rfl rfl rfl (pv_move (v := .slice _ _ _) rfl rfl) ?_
                    refine xl_pure rfl rfl rfl (pv_move (v := .int _ _) rfl rfl) ?_
                    refine xl_pure rfl rfl rfl (pv_move (v := .int _ _) rfl rfl) ?_
                    refine xl_pure rfl rfl rfl (pv_build_s (cs := [.int _ _, .int _ _]) rfl rfl rfl) ?_
                    refine xl_heavy rfl rfl rfl (hv_buildSlice (cs := [.int _ _, .int _ _]) rfl rfl rfl rfl rfl) ?_
                    rintro v25_4 H25_4 ⟨b25_4, rfl, hN25_4⟩
                    refine xl_heavy rfl rfl rfl (hv_append rfl rfl (hown.ext hN25_4.ext) rfl hN25_4.blk.row rfl (by simp [Value.oneCell']) rfl (by decide) (by omega) (by omega) (Nat.le_trans hX.size hN25_4.ext.size)) ?_
                    rintro v25_5 H25_5 ⟨hO25_5, hG25_5, -, -⟩
                    obtain ⟨a25_5, c25_5, rfl⟩ := hO25_5.val
                    refine xl_pure rfl rfl rfl (pv_assign (v := .slice _ _ _) rfl rfl) ?_
                    refine xl_nil ?_
                    refine xthen_normal ?_
                    refine xc_region ?_
                    refine xl_pure rfl rfl rfl (pv_move (v := .int _ _) rfl rfl) ?_
                    refine xl_pure rfl rfl rfl (pv_assign (v := .int _ _) rfl rfl) ?_
                    refine xl_nil ?_
                    refine xblock_normal ?_
                    refine xthen_normal ?_
                    first
                      | exact ⟨(_, _, _), ⟨rfl, rfl, rfl, trivial⟩, ⟨hni.next hlst hk0 hsum (by omega), by simpa [fl_snoc] using hO25_5, (hown.ext hN25_4.ext).grown (hX.trans hN25_4.ext) hG25_5 (Nat.le_refl _)⟩, cnt_next hlst hk0⟩
                      | exact ⟨(_, _, _), ⟨rfl, rfl, rfl, trivial⟩, ⟨hni.next0 hlst hk0 hsum (by omega), hown, hX⟩, cnt_next hlst hk0⟩
                  · skip
                    refine xl_nil ?_
                    refine xthen_normal ?_
                    refine xc_cond_f rfl ?_
                    refine xc_skip ?_
                    refine xthen_normal ?_
                    refine xc_region ?_
                    refine xl_pure rfl rfl rfl (pv_move (v := .int _ _) rfl rfl) ?_
                    refine xl_pure rfl rfl rfl (pv_assign (v := .int _ _) rfl rfl) ?_
                    refine xl_nil ?_
                    refine xblock_normal ?_
                    refine xthen_normal ?_
                    first
                      | exact ⟨(_, _, _), ⟨rfl, rfl, rfl, trivial⟩, ⟨hni.next hlst hk0 hsum (by omega), by simpa [fl_snoc] using hO25_5, (hown.ext hN25_4.ext).grown (hX.trans hN25_4.ext) hG25_5 (Nat.le_refl _)⟩, cnt_next hlst hk0⟩
                      | exact ⟨(_, _, _), ⟨rfl, rfl, rfl, trivial⟩, ⟨hni.next0 hlst hk0 hsum (by omega), hown, hX⟩, cnt_next hlst hk0⟩

theorem gRCheck {O : Outer} {H : Heap} (l : List Stack) (a : Option Addr) (c : Nat) (m : Int) (hs : Stks H a l) (hl : l.length < 1099511627776) :
    FnC Try.prog 54 #[.slice a l.length c, .int .i64 m] O H (fun v H' => ∃ e, v = .int .i64 e ∧ (Goods l m ∧ e = 0 ∨ ¬ Goods l m ∧ e = 1) ∧ Ext H H') := by
  refine fn_enter (A := [.slice a l.length c, .int .i64 m]) Try.func54 rfl rfl ?_
  refine xc_seq ?_
  refine xc_region ?_
  refine xl_pure rfl rfl rfl (pv_assign (v := .int _ _) rfl rfl) ?_
  refine xl_nil ?_
  refine xthen_normal ?_
  refine xc_seq ?_
  refine xc_seq ?_
  refine xc_region ?_
  refine xl_pure rfl rfl rfl (pv_move (v := .slice _ _ _) rfl rfl) ?_
  refine xl_pure rfl rfl rfl (pv_len_l rfl rfl) ?_
  refine xl_dec rfl rfl rfl (pv_gtr rfl rfl rfl) (fun h1_2 => ?_) (fun h1_2 => ?_)
  · skip
    refine xl_nil ?_
    refine xthen_normal ?_
    refine xc_cond_t rfl ?_
    refine xc_seq ?_
    refine xc_region ?_
    refine xl_pure rfl rfl rfl (pv_assign (v := .int _ _) rfl rfl) ?_
    refine xl_nil ?_
    refine xthen_normal ?_
    refine xc_ret ?_
    refine xthen_ret ?_
    refine fin_ret (res1 (v := .int _ _) rfl rfl) ?_
    exact ⟨1, rfl, .inr ⟨fun h => by have h := h.2; omega, rfl⟩, Ext.refl _⟩
  · skip
    refine xl_nil ?_
    refine xthen_normal ?_
    refine xc_cond_f rfl ?_
    refine xc_skip ?_
    refine xthen_normal ?_
    refine xc_seq ?_
    refine xc_region ?_
    refine xl_pure rfl rfl rfl (pv_move (v := .slice _ _ _) rfl rfl) ?_
    refine xl_heavy rfl rfl rfl (hv_call (g := 59) rfl rfl (gNorm l a c hs hl) rfl) ?_
    rintro v3_1 H3_1 ⟨e3_1, out, a1, c1, rfl, hol, hO, hE3_1⟩
    refine xl_pure rfl rfl rfl (pv_move (v := .tuple _) rfl rfl) ?_
    refine xl_pure rfl rfl rfl (pv_extract (v := .slice _ _ _) rfl rfl rfl) ?_
    refine xl_pure rfl rfl rfl (pv_extract (v := .int _ _) rfl rfl rfl) ?_
    refine xl_pure rfl rfl rfl (pv_assign (v := .slice _ _ _) rfl rfl) ?_
    refine xl_pure rfl rfl rfl (pv_assign (v := .int _ _) rfl rfl) ?_
    refine xl_nil ?_
    refine xthen_normal ?_
    refine xc_seq ?_
    refine xc_seq ?_
    refine xc_region ?_
    refine xl_pure rfl rfl rfl (pv_move (v := .int _ _) rfl rfl) ?_
    refine xl_ndec rfl rfl rfl (pv_neq rfl rfl rfl) (fun h4_1 => ?_) (fun h4_1 => ?_)
    · skip
      refine xl_pure rfl rfl rfl (pv_move (v := .bool _) rfl rfl) ?_
      obtain ⟨-, hup, hso, heq⟩ := hO.resolve_right (fun h => h.1 h4_1)
      refine xl_pure rfl rfl rfl (pv_move (v := .slice _ _ _) rfl rfl) ?_
      refine xl_pure rfl rfl rfl (pv_move (v := .slice _ _ _) rfl rfl) ?_
      refine xl_heavy rfl rfl rfl (hv_call (g := 23) rfl rfl (gSame _ _ _ _ _ _ (hO.resolve_right (fun h => h.1 h4_1)).2.2.1 (hs.ext hE3_1) (Nat.lt_of_le_of_lt hol (by omega))) rfl) ?_
      rintro v4_5 H4_5 ⟨r4_5, rfl, hb4_5, rfl⟩
      cases r4_5
      · skip
        replace hb4_5 := mt hb4_5.2 (by decide)
        refine xl_pure rfl rfl rfl (pv_not rfl rfl) ?_
        refine xl_pure rfl rfl rfl (pv_pick_f (v := .bool _) rfl rfl rfl) ?_
        refine xl_pure rfl rfl rfl (pv_move (v := .bool _) rfl rfl) ?_
        refine xl_skip rfl rfl rfl ?_
        refine xl_skip rfl rfl rfl ?_
        refine xl_skip rfl rfl rfl ?_
        refine xl_skip rfl rfl rfl ?_
        refine xl_skip rfl rfl rfl ?_
        refine xl_skip rfl rfl rfl ?_
        refine xl_skip rfl rfl rfl ?_
        refine xl_skip rfl rfl rfl ?_
        refine xl_skip rfl rfl rfl ?_
        refine xl_skip rfl rfl rfl ?_
        refine xl_skip rfl rfl rfl ?_
        refine xl_skip rfl rfl rfl ?_
        refine xl_skip rfl rfl rfl ?_
        refine xl_skip rfl rfl rfl ?_
        refine xl_pure rfl rfl rfl (pv_pick_t (v := .bool _) rfl rfl rfl) ?_
        refine xl_nil ?_
        refine xthen_normal ?_
        refine xc_cond_t rfl ?_
        refine xc_seq ?_
        refine xc_region ?_
        refine xl_pure rfl rfl rfl (pv_assign (v := .int _ _) rfl rfl) ?_
        refine xl_nil ?_
        refine xthen_normal ?_
        refine xc_ret ?_
        refine xthen_ret ?_
        refine fin_ret (res1 (v := .int _ _) rfl rfl) ?_
        first
          | exact ⟨1, rfl, .inr ⟨fun h => (hO.resolve_left (fun h' => h4_1 h'.1)).2 (asc_up.1 h.1).1, rfl⟩, hE3_1⟩
          | exact ⟨1, rfl, .inr ⟨fun h => hb4_5 (heq (asc_up.1 h.1).1), rfl⟩, hE3_1⟩
          | exact ⟨1, rfl, .inr ⟨fun h => by have h := (asc_last (hb4_5 ▸ hup)).1 h.1 (by omega); rw [lasti (by omega)] at h4_21; omega, rfl⟩, hE3_1⟩
      · skip
        replace hb4_5 := hb4_5.1 rfl
        refine xl_pure rfl rfl rfl (pv_not rfl rfl) ?_
        refine xl_pure rfl rfl rfl (pv_pick_f (v := .bool _) rfl rfl rfl) ?_
        refine xl_pure rfl rfl rfl (pv_move (v := .bool _) rfl rfl) ?_
        refine xl_pure rfl rfl rfl (pv_move (v := .slice _ _ _) rfl rfl) ?_
        refine xl_pure rfl rfl rfl (pv_len_l rfl rfl) ?_
        refine xl_dec rfl rfl rfl (pv_gtr rfl rfl rfl) (fun h4_11 => ?_) (fun h4_11 => ?_)
        · skip
          refine xl_pure rfl rfl rfl (pv_move (v := .bool _) rfl rfl) ?_
          obtain ⟨ba, off, hae, hsa⟩ := hs.resolve_left (by omega)
          subst hae
          refine xl_pure rfl rfl rfl (pv_move (v := .slice _ _ _) rfl rfl) ?_
          refine xl_pure rfl rfl rfl (pv_move (v := .slice _ _ _) rfl rfl) ?_
          refine xl_pure rfl rfl rfl (pv_len_l rfl rfl) ?_
          refine xl_pure rfl rfl rfl (pv_sub rfl rfl rfl (fit_i64 (by omega))) ?_
          refine xl_pure rfl rfl rfl (pv_indexAddr_l rfl rfl rfl (by omega)) ?_
          refine xl_pure rfl rfl rfl (pv_fieldAddr rfl rfl) ?_
          refine xl_light rfl rfl rfl (lv_load (v := .int _ _) rfl rfl (by first | exact cellAt_ext (hsa ((l.length : Int) - 1).toNat (by omega)).1 hE3_1)) ?_
          refine xl_pure rfl rfl rfl (pv_move (v := .int _ _) rfl rfl) ?_
          refine xl_dec rfl rfl rfl (pv_gtr rfl rfl rfl) (fun h4_21 => ?_) (fun h4_21 => ?_)
          · skip
            refine xl_pure rfl rfl rfl (pv_pick_t (v := .bool _) rfl rfl rfl) ?_
            refine xl_pure rfl rfl rfl (pv_pick_f (v := .bool _) rfl rfl rfl) ?_
            refine xl_nil ?_
            refine xthen_normal ?_
            refine xc_cond_t rfl ?_
            refine xc_seq ?_
            refine xc_region ?_
            refine xl_pure rfl rfl rfl (pv_assign (v := .int _ _) rfl rfl) ?_
            refine xl_nil ?_
            refine xthen_normal ?_
            refine xc_ret ?_
            refine xthen_ret ?_
            refine fin_ret (res1 (v := .int _ _) rfl rfl) ?_
            first
              | exact ⟨1, rfl, .inr ⟨fun h => (hO.resolve_left (fun h' => h4_1 h'.1)).2 (asc_up.1 h.1).1, rfl⟩, hE3_1⟩
              | exact ⟨1, rfl, .inr ⟨fun h => hb4_5 (heq (asc_up.1 h.1).1), rfl⟩, hE3_1⟩
              | exact ⟨1, rfl, .inr ⟨fun h => by have h := (asc_last (hb4_5 ▸ hup)).1 h.1 (by omega); rw [lasti (by omega)] at h4_21; omega, rfl⟩, hE3_1⟩
          · skip
            refine xl_pure rfl rfl rfl (pv_pick_t (v := .bool _) rfl rfl rfl) ?_
            refine xl_pure rfl rfl rfl (pv_pick_f (v := .bool _) rfl rfl rfl) ?_
            refine xl_nil ?_
            refine xthen_normal ?_
            refine xc_cond_f rfl ?_
            refine xc_skip ?_
            refine xthen_normal ?_
            refine xc_seq ?_
            refine xc_region ?_
            refine xl_pure rfl rfl rfl (pv_assign (v := .int _ _) rfl rfl) ?_
            refine xl_nil ?_
            refine xthen_normal ?_
            refine xc_ret ?_
            refine fin_ret (res1 (v := .int _ _) rfl rfl) ?_
            first
              | exact ⟨0, rfl, .inl ⟨⟨(asc_last (hb4_5 ▸ hup)).2 (fun _ => by omega), by omega⟩, rfl⟩, hE3_1⟩
              | exact ⟨0, rfl, .inl ⟨⟨(asc_last (hb4_5 ▸ hup)).2 (fun _ => by rw [lasti (by omega)] at h4_21; omega), by omega⟩, rfl⟩, hE3_1⟩
        · skip
          refine xl_pure rfl rfl rfl (pv_move (v := .bool _) rfl rfl) ?_
          refine xl_skip rfl rfl rfl ?_
          refine xl_skip rfl rfl rfl ?_
          refine xl_skip rfl rfl rfl ?_
          refine xl_skip rfl rfl rfl ?_
          refine xl_skip rfl rfl rfl ?_
          refine xl_skip rfl rfl rfl ?_
          refine xl_skip rfl rfl rfl ?_
          refine xl_skip rfl rfl rfl ?_
          refine xl_skip rfl rfl rfl ?_
          refine xl_pure rfl rfl rfl (pv_pick_f (v := .bool _) rfl rfl rfl) ?_
          refine xl_pure rfl rfl rfl (pv_pick_f (v := .bool _) rfl rfl rfl) ?_
          refine xl_nil ?_
          refine xthen_normal ?_
          refine xc_cond_f rfl ?_
          refine xc_skip ?_
          refine xthen_normal ?_
          refine xc_seq ?_
          refine xc_region ?_
          refine xl_pure rfl rfl rfl (pv_assign (v := .int _ _) rfl rfl) ?_
          refine xl_nil ?_
          refine xthen_normal ?_
          refine xc_ret ?_
          refine fin_ret (res1 (v := .int _ _) rfl rfl) ?_
          first
            | exact ⟨0, rfl, .inl ⟨⟨(asc_last (hb4_5 ▸ hup)).2 (fun _ => by omega), by omega⟩, rfl⟩, hE3_1⟩
            | exact ⟨0, rfl, .inl ⟨⟨(asc_last (hb4_5 ▸ hup)).2 (fun _ => by rw [lasti (by omega)] at h4_21; omega), by omega⟩, rfl⟩, hE3_1⟩
    · skip
      refine xl_pure rfl rfl rfl (pv_move (v := .bool _) rfl rfl) ?_
      refine xl_skip rfl rfl rfl ?_
      refine xl_skip rfl rfl rfl ?_
      refine xl_skip rfl rfl rfl ?_
      refine xl_skip rfl rfl rfl ?_
      refine xl_pure rfl rfl rfl (pv_pick_t (v := .bool _) rfl rfl rfl) ?_
      refine xl_pure rfl rfl rfl (pv_move (v := .bool _) rfl rfl) ?_
      refine xl_skip rfl rfl rfl ?_
      refine xl_skip rfl rfl rfl ?_
      refine xl_skip rfl rfl rfl ?_
      refine xl_skip rfl rfl rfl ?_
      refine xl_skip rfl rfl rfl ?_
      refine xl_skip rfl rfl rfl ?_
      refine xl_skip rfl rfl rfl ?_
      refine xl_skip rfl rfl rfl ?_
      refine xl_skip rfl rfl rfl ?_
      refine xl_skip rfl rfl rfl ?_
      refine xl_skip rfl rfl rfl ?_
      refine xl_skip rfl rfl rfl ?_
      refine xl_skip rfl rfl rfl ?_
      refine xl_skip rfl rfl rfl ?_
      refine xl_pure rfl rfl rfl (pv_pick_t (v := .bool _) rfl rfl rfl) ?_
      refine xl_nil ?_
      refine xthen_normal ?_
      refine xc_cond_t rfl ?_
      refine xc_seq ?_
      refine xc_region ?_
      refine xl_pure rfl rfl rfl (pv_assign (v := .int _ _) rfl rfl) ?_
      refine xl_nil ?_
      refine xthen_normal ?_
      refine xc_ret ?_
      refine xthen_ret ?_
      refine fin_ret (res1 (v := .int _ _) rfl rfl) ?_
      first
        | exact ⟨1, rfl, .inr ⟨fun h => (hO.resolve_left (fun h' => h4_1 h'.1)).2 (asc_up.1 h.1).1, rfl⟩, hE3_1⟩
        | exact ⟨1, rfl, .inr ⟨fun h => hb4_5 (heq (asc_up.1 h.1).1), rfl⟩, hE3_1⟩
        | exact ⟨1, rfl, .inr ⟨fun h => by have h := (asc_last (hb4_5 ▸ hup)).1 h.1 (by omega); rw [lasti (by omega)] at h4_21; omega, rfl⟩, hE3_1⟩
end Go.XG
