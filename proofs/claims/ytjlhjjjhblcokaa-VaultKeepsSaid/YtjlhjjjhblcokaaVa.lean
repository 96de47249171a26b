/-
  Walks of the seat's functions over the logic XG: each function, what it computes. Printed by a program out of wip/walks.py.
-/
import Derived.Test.YtjlhjjjhblcokaaI
import Derived.Test.YtjlhjjjhblcokaaXs
import Derived.Test.YtjlhjjjhblcokaaTo
import Derived.Test.YtjlhjjjhblcokaaTa
import Derived.Test.YtjlhjjjhblcokaaTb
import Derived.Test.YtjlhjjjhblcokaaKb
import Derived.Test.YtjlhjjjhblcokaaBa
import Derived.Test.YtjlhjjjhblcokaaBb
import Derived.Test.YtjlhjjjhblcokaaBc
import Derived.Test.YtjlhjjjhblcokaaKp
import Derived.Test.YtjlhjjjhblcokaaUa
import Derived.Test.YtjlhjjjhblcokaaKv
import Derived.Test.YtjlhjjjhblcokaaXw
namespace Go.XG
open Go.Proofs
set_option maxRecDepth 20000
set_option maxHeartbeats 4000000
theorem ld_two {H : Heap} {b j : Nat} (h : Blk H b [.int .i64 1, .int .i64 2] 3) (hj : j < 2) : cellAt H b (0 + ((j : Nat) : Int).toNat * 1) = some (.int .i64 ((j : Int) + 1)) := by
  have : j = 0 ∨ j = 1 := by omega
  rcases this with rfl | rfl
  · exact h.row 0 _ rfl
  · exact h.row 1 _ rfl

theorem ov2 {z y : Int} (h : z = y) : Value.tuple #[.int .i64 z, .int .i64 0] = .tuple #[.int .i64 y, .int .i64 0] := by rw [h]

theorem c39 {O : Outer} {H : Heap} (w : Int) :
    FnC Try.prog 39 #[.int .i64 w] O H (fun v H' => v = .int .i64 (abv w) ∧ H = H') := by
  refine fn_enter (A := [.int .i64 w]) Try.func39 rfl rfl ?_
  have hX := Ext.refl H
  refine xc_seq ?_
  refine xc_region ?_
  refine xl_pure rfl rfl rfl (pv_assign (v := .int _ _) rfl rfl) ?_
  refine xl_nil ?_
  refine xthen_normal ?_
  refine xc_seq ?_
  refine xc_seq ?_
  refine xc_region ?_
  refine xl_pure rfl rfl rfl (pv_move (v := .int _ _) rfl rfl) ?_
  refine xl_nil ?_
  refine xthen_normal ?_
  refine xc_block ?_
  refine xc_seq ?_
  refine xc_region ?_
  refine xl_dec rfl rfl rfl (pv_eql rfl rfl rfl) (fun h2_0 => ?_) (fun h2_0 => ?_)
  · skip
    refine xl_pure rfl rfl rfl (pv_assign (v := .bool _) rfl rfl) ?_
    refine xl_nil ?_
    refine xthen_normal ?_
    refine xc_cond_t rfl ?_
    refine xc_seq ?_
    refine xc_region ?_
    refine xl_pure rfl rfl rfl (pv_assign (v := .int _ _) rfl rfl) ?_
    refine xl_nil ?_
    refine xthen_normal ?_
    refine xc_ret ?_
    refine xblock_ret ?_
    refine xthen_ret ?_
    refine fin_ret (res1 (v := .int _ _) rfl rfl) ?_
    first
      | exact ⟨iv (by unfold abv; rw [if_pos (by assumption)]), rfl⟩
      | exact ⟨iv (by unfold abv; rw [if_neg (by assumption), if_pos (by assumption)]), rfl⟩
      | exact ⟨iv (by unfold abv; rw [if_neg (by assumption), if_neg (by assumption)]), rfl⟩
  · skip
    refine xl_pure rfl rfl rfl (pv_assign (v := .bool _) rfl rfl) ?_
    refine xl_nil ?_
    refine xthen_normal ?_
    refine xc_cond_f rfl ?_
    refine xc_seq ?_
    refine xc_region ?_
    refine xl_dec rfl rfl rfl (pv_eql rfl rfl rfl) (fun h4_0 => ?_) (fun h4_0 => ?_)
    · skip
      refine xl_pure rfl rfl rfl (pv_assign (v := .bool _) rfl rfl) ?_
      refine xl_nil ?_
      refine xthen_normal ?_
      refine xc_cond_t rfl ?_
      refine xc_seq ?_
      refine xc_region ?_
      refine xl_pure rfl rfl rfl (pv_assign (v := .int _ _) rfl rfl) ?_
      refine xl_nil ?_
      refine xthen_normal ?_
      refine xc_ret ?_
      refine xblock_ret ?_
      refine xthen_ret ?_
      refine fin_ret (res1 (v := .int _ _) rfl rfl) ?_
      first
        | exact ⟨iv (by unfold abv; rw [if_pos (by assumption)]), rfl⟩
        | exact ⟨iv (by unfold abv; rw [if_neg (by assumption), if_pos (by assumption)]), rfl⟩
        | exact ⟨iv (by unfold abv; rw [if_neg (by assumption), if_neg (by assumption)]), rfl⟩
    · skip
      refine xl_pure rfl rfl rfl (pv_assign (v := .bool _) rfl rfl) ?_
      refine xl_nil ?_
      refine xthen_normal ?_
      refine xc_cond_f rfl ?_
      refine xc_skip ?_
      refine xblock_normal ?_
      refine xthen_normal ?_
      refine xc_seq ?_
      refine xc_region ?_
      refine xl_pure rfl rfl rfl (pv_assign (v := .int _ _) rfl rfl) ?_
      refine xl_nil ?_
      refine xthen_normal ?_
      refine xc_ret ?_
      refine fin_ret (res1 (v := .int _ _) rfl rfl) ?_
      first
        | exact ⟨iv (by unfold abv; rw [if_pos (by assumption)]), rfl⟩
        | exact ⟨iv (by unfold abv; rw [if_neg (by assumption), if_pos (by assumption)]), rfl⟩
        | exact ⟨iv (by unfold abv; rw [if_neg (by assumption), if_neg (by assumption)]), rfl⟩

theorem c7 {O : Outer} {H : Heap} (w i : Int) :
    FnC Try.prog 7 #[.int .i64 w, .int .i64 i] O H (fun v H' => (OKo w i ∧ v = .tuple #[.int .i64 (owN w i), .int .i64 0] ∨ ¬ OKo w i ∧ v = .tuple #[.int .i64 0, .int .i64 1]) ∧ H = H') := by
  refine fn_enter (A := [.int .i64 w, .int .i64 i]) Try.func7 rfl rfl ?_
  have hX := Ext.refl H
  refine xc_seq ?_
  refine xc_region ?_
  refine xl_pure rfl rfl rfl (pv_assign (v := .int _ _) rfl rfl) ?_
  refine xl_pure rfl rfl rfl (pv_assign (v := .int _ _) rfl rfl) ?_
  refine xl_nil ?_
  refine xthen_normal ?_
  refine xc_seq ?_
  refine xc_region ?_
  refine xl_pure rfl rfl rfl (pv_move (v := .int _ _) rfl rfl) ?_
  refine xl_heavy rfl rfl rfl (hv_call (g := 39) rfl rfl (c39 w) rfl) ?_
  rintro v1_1 H1_1 ⟨rfl, rfl⟩
  obtain ⟨b, hb, hbv⟩ : ∃ b, b = abv w ∧ (w = 1 ∧ b = 1048576 ∨ w = 2 ∧ b = 2097152 ∨ (w ≠ 1 ∧ w ≠ 2) ∧ b = 0) := ⟨_, rfl, by unfold abv; split; omega; split <;> omega⟩
  rw [← hb]
  refine xl_pure rfl rfl rfl (pv_assign (v := .int _ _) rfl rfl) ?_
  refine xl_nil ?_
  refine xthen_normal ?_
  refine xc_seq ?_
  refine xc_seq ?_
  refine xc_region ?_
  refine xl_pure rfl rfl rfl (pv_move (v := .int _ _) rfl rfl) ?_
  refine xl_dec rfl rfl rfl (pv_eql rfl rfl rfl) (fun h2_1 => ?_) (fun h2_1 => ?_)
  · skip
    refine xl_pure rfl rfl rfl (pv_move (v := .bool _) rfl rfl) ?_
    refine xl_skip rfl rfl rfl ?_
    refine xl_skip rfl rfl rfl ?_
    refine xl_pure rfl rfl rfl (pv_pick_t (v := .bool _) rfl rfl rfl) ?_
    refine xl_pure rfl rfl rfl (pv_move (v := .bool _) rfl rfl) ?_
    refine xl_skip rfl rfl rfl ?_
    refine xl_skip rfl rfl rfl ?_
    refine xl_pure rfl rfl rfl (pv_pick_t (v := .bool _) rfl rfl rfl) ?_
    refine xl_nil ?_
    refine xthen_normal ?_
    refine xc_cond_t rfl ?_
    refine xc_seq ?_
    refine xc_region ?_
    refine xl_pure rfl rfl rfl (pv_assign (v := .int _ _) rfl rfl) ?_
    refine xl_pure rfl rfl rfl (pv_assign (v := .int _ _) rfl rfl) ?_
    refine xl_nil ?_
    refine xthen_normal ?_
    refine xc_ret ?_
    refine xthen_ret ?_
    refine fin_ret (res2 (v := .int _ _) (x := .int _ _) rfl rfl rfl) ?_
    first
      | exact ⟨.inl ⟨by unfold OKo; omega, by rfl⟩, rfl⟩
      | exact ⟨.inr ⟨by unfold OKo; omega, rfl⟩, rfl⟩
      | exact ⟨.inl ⟨by unfold OKo; omega, ov2 (by unfold owN; omega)⟩, rfl⟩
  · skip
    refine xl_pure rfl rfl rfl (pv_move (v := .bool _) rfl rfl) ?_
    refine xl_pure rfl rfl rfl (pv_move (v := .int _ _) rfl rfl) ?_
    refine xl_dec rfl rfl rfl (pv_lss rfl rfl rfl) (fun h2_4 => ?_) (fun h2_4 => ?_)
    · skip
      refine xl_pure rfl rfl rfl (pv_pick_f (v := .bool _) rfl rfl rfl) ?_
      refine xl_pure rfl rfl rfl (pv_move (v := .bool _) rfl rfl) ?_
      refine xl_skip rfl rfl rfl ?_
      refine xl_skip rfl rfl rfl ?_
      refine xl_pure rfl rfl rfl (pv_pick_t (v := .bool _) rfl rfl rfl) ?_
      refine xl_nil ?_
      refine xthen_normal ?_
      refine xc_cond_t rfl ?_
      refine xc_seq ?_
      refine xc_region ?_
      refine xl_pure rfl rfl rfl (pv_assign (v := .int _ _) rfl rfl) ?_
      refine xl_pure rfl rfl rfl (pv_assign (v := .int _ _) rfl rfl) ?_
      refine xl_nil ?_
      refine xthen_normal ?_
      refine xc_ret ?_
      refine xthen_ret ?_
      refine fin_ret (res2 (v := .int _ _) (x := .int _ _) rfl rfl rfl) ?_
      first
        | exact ⟨.inl ⟨by unfold OKo; omega, by rfl⟩, rfl⟩
        | exact ⟨.inr ⟨by unfold OKo; omega, rfl⟩, rfl⟩
        | exact ⟨.inl ⟨by unfold OKo; omega, ov2 (by unfold owN; omega)⟩, rfl⟩
    · skip
      refine xl_pure rfl rfl rfl (pv_pick_f (v := .bool _) rfl rfl rfl) ?_
      refine xl_pure rfl rfl rfl (pv_move (v := .bool _) rfl rfl) ?_
      refine xl_pure rfl rfl rfl (pv_move (v := .int _ _) rfl rfl) ?_
      refine xl_dec rfl rfl rfl (pv_geq rfl rfl rfl) (fun h2_8 => ?_) (fun h2_8 => ?_)
      · skip
        refine xl_pure rfl rfl rfl (pv_pick_f (v := .bool _) rfl rfl rfl) ?_
        refine xl_nil ?_
        refine xthen_normal ?_
        refine xc_cond_t rfl ?_
        refine xc_seq ?_
        refine xc_region ?_
        refine xl_pure rfl rfl rfl (pv_assign (v := .int _ _) rfl rfl) ?_
        refine xl_pure rfl rfl rfl (pv_assign (v := .int _ _) rfl rfl) ?_
        refine xl_nil ?_
        refine xthen_normal ?_
        refine xc_ret ?_
        refine xthen_ret ?_
        refine fin_ret (res2 (v := .int _ _) (x := .int _ _) rfl rfl rfl) ?_
        first
          | exact ⟨.inl ⟨by unfold OKo; omega, by rfl⟩, rfl⟩
          | exact ⟨.inr ⟨by unfold OKo; omega, rfl⟩, rfl⟩
          | exact ⟨.inl ⟨by unfold OKo; omega, ov2 (by unfold owN; omega)⟩, rfl⟩
      · skip
        refine xl_pure rfl rfl rfl (pv_pick_f (v := .bool _) rfl rfl rfl) ?_
        refine xl_nil ?_
        refine xthen_normal ?_
        refine xc_cond_f rfl ?_
        refine xc_skip ?_
        refine xthen_normal ?_
        refine xc_seq ?_
        refine xc_region ?_
        refine xl_pure rfl rfl rfl (pv_move (v := .int _ _) rfl rfl) ?_
        refine xl_pure rfl rfl rfl (pv_move (v := .int _ _) rfl rfl) ?_
        refine xl_pure rfl rfl rfl (pv_add rfl rfl rfl (fit_i64 (by omega))) ?_
        refine xl_pure rfl rfl rfl (pv_assign (v := .int _ _) rfl rfl) ?_
        refine xl_pure rfl rfl rfl (pv_assign (v := .int _ _) rfl rfl) ?_
        refine xl_nil ?_
        refine xthen_normal ?_
        refine xc_ret ?_
        refine fin_ret (res2 (v := .int _ _) (x := .int _ _) rfl rfl rfl) ?_
        first
          | exact ⟨.inl ⟨by unfold OKo; omega, by rfl⟩, rfl⟩
          | exact ⟨.inr ⟨by unfold OKo; omega, rfl⟩, rfl⟩
          | exact ⟨.inl ⟨by unfold OKo; omega, ov2 (by unfold owN; omega)⟩, rfl⟩

theorem c8 {O : Outer} {H : Heap} (w i : Int) :
    FnC Try.prog 8 #[.int .i64 w, .int .i64 i] O H (fun v H' => (OKo w i ∧ v = .tuple #[.int .i64 (owN w i), .int .i64 0] ∨ ¬ OKo w i ∧ v = .tuple #[.int .i64 0, .int .i64 1]) ∧ H = H') := by
  refine fn_enter (A := [.int .i64 w, .int .i64 i]) Try.func8 rfl rfl ?_
  have hX := Ext.refl H
  refine xc_seq ?_
  refine xc_region ?_
  refine xl_pure rfl rfl rfl (pv_assign (v := .int _ _) rfl rfl) ?_
  refine xl_pure rfl rfl rfl (pv_assign (v := .int _ _) rfl rfl) ?_
  refine xl_nil ?_
  refine xthen_normal ?_
  refine xc_seq ?_
  refine xc_seq ?_
  refine xc_region ?_
  refine xl_pure rfl rfl rfl (pv_move (v := .int _ _) rfl rfl) ?_
  refine xl_dec rfl rfl rfl (pv_lss rfl rfl rfl) (fun h1_1 => ?_) (fun h1_1 => ?_)
  · skip
    refine xl_pure rfl rfl rfl (pv_move (v := .bool _) rfl rfl) ?_
    refine xl_skip rfl rfl rfl ?_
    refine xl_skip rfl rfl rfl ?_
    refine xl_pure rfl rfl rfl (pv_pick_t (v := .bool _) rfl rfl rfl) ?_
    refine xl_nil ?_
    refine xthen_normal ?_
    refine xc_cond_t rfl ?_
    refine xc_seq ?_
    refine xc_region ?_
    refine xl_pure rfl rfl rfl (pv_assign (v := .int _ _) rfl rfl) ?_
    refine xl_pure rfl rfl rfl (pv_assign (v := .int _ _) rfl rfl) ?_
    refine xl_nil ?_
    refine xthen_normal ?_
    refine xc_ret ?_
    refine xthen_ret ?_
    refine fin_ret (res2 (v := .int _ _) (x := .int _ _) rfl rfl rfl) ?_
    first
      | exact ⟨.inl ⟨by unfold OKo; omega, by rfl⟩, rfl⟩
      | exact ⟨.inr ⟨by unfold OKo; omega, rfl⟩, rfl⟩
      | exact ⟨.inl ⟨by unfold OKo; omega, ov2 (by unfold owN; omega)⟩, rfl⟩
  · skip
    refine xl_pure rfl rfl rfl (pv_move (v := .bool _) rfl rfl) ?_
    refine xl_pure rfl rfl rfl (pv_move (v := .int _ _) rfl rfl) ?_
    refine xl_dec rfl rfl rfl (pv_geq rfl rfl rfl) (fun h1_4 => ?_) (fun h1_4 => ?_)
    · skip
      refine xl_pure rfl rfl rfl (pv_pick_f (v := .bool _) rfl rfl rfl) ?_
      refine xl_nil ?_
      refine xthen_normal ?_
      refine xc_cond_t rfl ?_
      refine xc_seq ?_
      refine xc_region ?_
      refine xl_pure rfl rfl rfl (pv_assign (v := .int _ _) rfl rfl) ?_
      refine xl_pure rfl rfl rfl (pv_assign (v := .int _ _) rfl rfl) ?_
      refine xl_nil ?_
      refine xthen_normal ?_
      refine xc_ret ?_
      refine xthen_ret ?_
      refine fin_ret (res2 (v := .int _ _) (x := .int _ _) rfl rfl rfl) ?_
      first
        | exact ⟨.inl ⟨by unfold OKo; omega, by rfl⟩, rfl⟩
        | exact ⟨.inr ⟨by unfold OKo; omega, rfl⟩, rfl⟩
        | exact ⟨.inl ⟨by unfold OKo; omega, ov2 (by unfold owN; omega)⟩, rfl⟩
    · skip
      refine xl_pure rfl rfl rfl (pv_pick_f (v := .bool _) rfl rfl rfl) ?_
      refine xl_nil ?_
      refine xthen_normal ?_
      refine xc_cond_f rfl ?_
      refine xc_skip ?_
      refine xthen_normal ?_
      refine xc_seq ?_
      refine xc_region ?_
      refine xl_pure rfl rfl rfl (pv_move (v := .int _ _) rfl rfl) ?_
      refine xl_nil ?_
      refine xthen_normal ?_
      refine xc_block ?_
      refine xc_seq ?_
      refine xc_region ?_
      refine xl_dec rfl rfl rfl (pv_eql rfl rfl rfl) (fun h5_0 => ?_) (fun h5_0 => ?_)
      · skip
        refine xl_pure rfl rfl rfl (pv_assign (v := .bool _) rfl rfl) ?_
        refine xl_nil ?_
        refine xthen_normal ?_
        refine xc_cond_t rfl ?_
        refine xc_seq ?_
        refine xc_region ?_
        refine xl_pure rfl rfl rfl (pv_move (v := .int _ _) rfl rfl) ?_
        refine xl_pure rfl rfl rfl (pv_add rfl rfl rfl (fit_i64 (by omega))) ?_
        refine xl_pure rfl rfl rfl (pv_assign (v := .int _ _) rfl rfl) ?_
        refine xl_pure rfl rfl rfl (pv_assign (v := .int _ _) rfl rfl) ?_
        refine xl_nil ?_
        refine xthen_normal ?_
        refine xc_ret ?_
        refine xblock_ret ?_
        refine fin_ret (res2 (v := .int _ _) (x := .int _ _) rfl rfl rfl) ?_
        first
          | exact ⟨.inl ⟨by unfold OKo; omega, by rfl⟩, rfl⟩
          | exact ⟨.inr ⟨by unfold OKo; omega, rfl⟩, rfl⟩
          | exact ⟨.inl ⟨by unfold OKo; omega, ov2 (by unfold owN; omega)⟩, rfl⟩
      · skip
        refine xl_pure rfl rfl rfl (pv_assign (v := .bool _) rfl rfl) ?_
        refine xl_nil ?_
        refine xthen_normal ?_
        refine xc_cond_f rfl ?_
        refine xc_seq ?_
        refine xc_region ?_
        refine xl_dec rfl rfl rfl (pv_eql rfl rfl rfl) (fun h7_0 => ?_) (fun h7_0 => ?_)
        · skip
          refine xl_pure rfl rfl rfl (pv_assign (v := .bool _) rfl rfl) ?_
          refine xl_nil ?_
          refine xthen_normal ?_
          refine xc_cond_t rfl ?_
          refine xc_seq ?_
          refine xc_region ?_
          refine xl_pure rfl rfl rfl (pv_move (v := .int _ _) rfl rfl) ?_
          refine xl_pure rfl rfl rfl (pv_add rfl rfl rfl (fit_i64 (by omega))) ?_
          refine xl_pure rfl rfl rfl (pv_assign (v := .int _ _) rfl rfl) ?_
          refine xl_pure rfl rfl rfl (pv_assign (v := .int _ _) rfl rfl) ?_
          refine xl_nil ?_
          refine xthen_normal ?_
          refine xc_ret ?_
          refine xblock_ret ?_
          refine fin_ret (res2 (v := .int _ _) (x := .int _ _) rfl rfl rfl) ?_
          first
            | exact ⟨.inl ⟨by unfold OKo; omega, by rfl⟩, rfl⟩
            | exact ⟨.inr ⟨by unfold OKo; omega, rfl⟩, rfl⟩
            | exact ⟨.inl ⟨by unfold OKo; omega, ov2 (by unfold owN; omega)⟩, rfl⟩
        · skip
          refine xl_pure rfl rfl rfl (pv_assign (v := .bool _) rfl rfl) ?_
          refine xl_nil ?_
          refine xthen_normal ?_
          refine xc_cond_f rfl ?_
          refine xc_seq ?_
          refine xc_region ?_
          refine xl_pure rfl rfl rfl (pv_assign (v := .int _ _) rfl rfl) ?_
          refine xl_pure rfl rfl rfl (pv_assign (v := .int _ _) rfl rfl) ?_
          refine xl_nil ?_
          refine xthen_normal ?_
          refine xc_ret ?_
          refine xblock_ret ?_
          refine fin_ret (res2 (v := .int _ _) (x := .int _ _) rfl rfl rfl) ?_
          first
            | exact ⟨.inl ⟨by unfold OKo; omega, by rfl⟩, rfl⟩
            | exact ⟨.inr ⟨by unfold OKo; omega, rfl⟩, rfl⟩
            | exact ⟨.inl ⟨by unfold OKo; omega, ov2 (by unfold owN; omega)⟩, rfl⟩

theorem c9 {O : Outer} {H : Heap} (o : Int) :
    FnC Try.prog 9 #[.int .i64 o] O H (fun v H' => ((1048576 < o ∧ o < 2097152) ∧ v = .tuple #[.int .i64 1, .int .i64 (o - 1048576), .bool true] ∨ (2097152 < o ∧ o < 3145728) ∧ v = .tuple #[.int .i64 2, .int .i64 (o - 2097152), .bool true] ∨ (¬ (1048576 < o ∧ o < 2097152) ∧ ¬ (2097152 < o ∧ o < 3145728)) ∧ v = .tuple #[.int .i64 0, .int .i64 0, .bool false]) ∧ Ext H H') := by
  refine fn_enter (A := [.int .i64 o]) Try.func9 rfl rfl ?_
  have hX := Ext.refl H
  refine xc_seq ?_
  refine xc_region ?_
  refine xl_pure rfl rfl rfl (pv_assign (v := .int _ _) rfl rfl) ?_
  refine xl_pure rfl rfl rfl (pv_assign (v := .int _ _) rfl rfl) ?_
  refine xl_pure rfl rfl rfl (pv_assign (v := .bool _) rfl rfl) ?_
  refine xl_nil ?_
  refine xthen_normal ?_
  refine xc_seq ?_
  refine xc_seq ?_
  refine xc_region ?_
  refine xl_heavy rfl rfl rfl (hv_buildSlice (cs := [.int _ _, .int _ _]) rfl rfl rfl rfl rfl) ?_
  rintro v1_0 H1_0 ⟨b1_0, rfl, hN1_0⟩
  have gb1_0 := hX.fresh hN1_0
  have hX := hX.trans hN1_0.ext
  have m1_0 := hN1_0.blk
  refine xl_pure rfl rfl rfl (pv_len_l rfl rfl) ?_
  refine xl_pure rfl rfl rfl (pv_move (v := .int _ _) rfl rfl) ?_
  refine xl_nil ?_
  refine xthen_normal ?_
  refine xc_block ?_
  refine xc_loop (τ := Nat) (fun t => [(0, .int .i64 o), (8, .slice (some ⟨b1_0, 0, none⟩) 2 2), (9, .int .i64 (2 : Nat)), (10, .int .i64 (t : Nat))]) (fun t H' => (t ≤ 2) ∧ ((1 ≤ t → ¬ (1048576 < o ∧ o < 2097152)) ∧ (2 ≤ t → ¬ (2097152 < o ∧ o < 3145728))) ∧ (Blk H' b1_0 [.int .i64 1, .int .i64 2] 3) ∧ (Ext H H')) (fun t H' => 2 - t) 0 ?_ ?_ ?_
  · exact ⟨rfl, rfl, rfl, rfl, trivial⟩
  · skip
    exact ⟨Nat.zero_le _, ⟨fun h => absurd h (by omega), fun h => absurd h (by omega)⟩, m1_0, hX⟩
  · intro σ
    clear hX m1_0
    rintro j Hl2 ⟨hj, hlo, m1_0, hX⟩
    replace hj : j ≤ 2 := hj
    replace hlo : (1 ≤ j → ¬ (1048576 < o ∧ o < 2097152)) ∧ (2 ≤ j → ¬ (2097152 < o ∧ o < 3145728)) := hlo
    replace m1_0 : Blk Hl2 b1_0 [.int .i64 1, .int .i64 2] 3 := m1_0
    replace hX : Ext H Hl2 := hX
    show XC _ _ _ (upds σ [(0, .int .i64 o), (8, .slice (some ⟨b1_0, 0, none⟩) 2 2), (9, .int .i64 (2 : Nat)), (10, .int .i64 (j : Nat))]) _
    refine xc_seq ?_
    refine xc_region ?_
    refine xl_dec rfl rfl rfl (pv_lss rfl rfl rfl) (fun h2_0 => ?_) (fun h2_0 => ?_)
    · skip
      refine xl_nil ?_
      refine xthen_normal ?_
      refine xc_seq ?_
      refine xc_cond_t rfl ?_
      refine xc_skip ?_
      refine xthen_normal ?_
      refine xc_seq ?_
      refine xc_block ?_
      refine xc_seq ?_
      have hj2 : j < 2 := by omega
      refine xc_region ?_
      refine xl_pure rfl rfl rfl (pv_indexAddr_l rfl rfl rfl (by omega)) ?_
      refine xl_light rfl rfl rfl (lv_load (v := .int _ _) rfl rfl (by exact ld_two m1_0 hj2)) ?_
      refine xl_pure rfl rfl rfl (pv_assign (v := .int _ _) rfl rfl) ?_
      refine xl_nil ?_
      refine xthen_normal ?_
      refine xc_seq ?_
      refine xc_region ?_
      refine xl_pure rfl rfl rfl (pv_move (v := .int _ _) rfl rfl) ?_
      refine xl_heavy rfl rfl rfl (hv_call (g := 39) rfl rfl (c39 ((j : Int) + 1)) rfl) ?_
      rintro v4_1 H4_1 ⟨rfl, rfl⟩
      obtain ⟨b, hb, hbv⟩ : ∃ b, b = abv ((j : Int) + 1) ∧ b = ((j : Int) + 1) * 1048576 := ⟨_, rfl, by unfold abv; split; omega; split <;> omega⟩
      rw [← hb]
      refine xl_pure rfl rfl rfl (pv_assign (v := .int _ _) rfl rfl) ?_
      refine xl_nil ?_
      refine xthen_normal ?_
      refine xc_seq ?_
      refine xc_region ?_
      refine xl_pure rfl rfl rfl (pv_move (v := .int _ _) rfl rfl) ?_
      refine xl_pure rfl rfl rfl (pv_move (v := .int _ _) rfl rfl) ?_
      refine xl_dec rfl rfl rfl (pv_gtr rfl rfl rfl) (fun h5_2 => ?_) (fun h5_2 => ?_)
      · skip
        refine xl_pure rfl rfl rfl (pv_move (v := .bool _) rfl rfl) ?_
        refine xl_pure rfl rfl rfl (pv_move (v := .int _ _) rfl rfl) ?_
        refine xl_pure rfl rfl rfl (pv_move (v := .int _ _) rfl rfl) ?_
        refine xl_pure rfl rfl rfl (pv_add rfl rfl rfl (fit_i64 (by omega))) ?_
        refine xl_dec rfl rfl rfl (pv_lss rfl rfl rfl) (fun h5_7 => ?_) (fun h5_7 => ?_)
        · skip
          refine xl_pure rfl rfl rfl (pv_pick_t (v := .bool _) rfl rfl rfl) ?_
          refine xl_nil ?_
          refine xthen_normal ?_
          refine xc_cond_t rfl ?_
          refine xc_seq ?_
          refine xc_region ?_
          refine xl_pure rfl rfl rfl (pv_move (v := .int _ _) rfl rfl) ?_
          refine xl_pure rfl rfl rfl (pv_move (v := .int _ _) rfl rfl) ?_
          refine xl_pure rfl rfl rfl (pv_move (v := .int _ _) rfl rfl) ?_
          refine xl_pure rfl rfl rfl (pv_sub rfl rfl rfl (fit_i64 (by omega))) ?_
          refine xl_pure rfl rfl rfl (pv_assign (v := .int _ _) rfl rfl) ?_
          refine xl_pure rfl rfl rfl (pv_assign (v := .int _ _) rfl rfl) ?_
          refine xl_pure rfl rfl rfl (pv_assign (v := .bool _) rfl rfl) ?_
          refine xl_nil ?_
          refine xthen_normal ?_
          refine xc_ret ?_
          refine xblock_ret ?_
          refine xthen_ret ?_
          refine xthen_ret ?_
          refine xblock_ret ?_
          refine xthen_ret ?_
          refine fin_ret (res3 (v := .int _ _) (x := .int _ _) (y := .bool _) rfl rfl rfl rfl) ?_
          first
            | exact ⟨.inr (.inr ⟨⟨hlo.1 (by omega), hlo.2 (by omega)⟩, rfl⟩), hX⟩
            | (rcases Nat.lt_or_ge j 1 with h | h
               obtain rfl : j = 0 := (by omega)
               exact ⟨.inl ⟨by omega, by subst hbv; rfl⟩, hX⟩
               obtain rfl : j = 1 := (by omega)
               exact ⟨.inr (.inl ⟨by omega, by subst hbv; rfl⟩), hX⟩)
        · skip
          refine xl_pure rfl rfl rfl (pv_pick_t (v := .bool _) rfl rfl rfl) ?_
          refine xl_nil ?_
          refine xthen_normal ?_
          refine xc_cond_f rfl ?_
          refine xc_skip ?_
          refine xblock_normal ?_
          refine xthen_normal ?_
          refine xc_region ?_
          refine xl_pure rfl rfl rfl (pv_add rfl rfl rfl (fit_i64 (by omega))) ?_
          refine xl_pure rfl rfl rfl (pv_move (v := .int _ _) rfl rfl) ?_
          refine xl_nil ?_
          refine xthen_normal ?_
          exact ⟨j + 1, ⟨rfl, rfl, rfl, rfl, trivial⟩, ⟨by (try simp only); omega, ⟨fun _ => by omega, fun _ => by omega⟩, m1_0, hX⟩, by (try simp only); omega⟩
      · skip
        refine xl_pure rfl rfl rfl (pv_move (v := .bool _) rfl rfl) ?_
        refine xl_skip rfl rfl rfl ?_
        refine xl_skip rfl rfl rfl ?_
        refine xl_skip rfl rfl rfl ?_
        refine xl_skip rfl rfl rfl ?_
        refine xl_pure rfl rfl rfl (pv_pick_f (v := .bool _) rfl rfl rfl) ?_
        refine xl_nil ?_
        refine xthen_normal ?_
        refine xc_cond_f rfl ?_
        refine xc_skip ?_
        refine xblock_normal ?_
        refine xthen_normal ?_
        refine xc_region ?_
        refine xl_pure rfl rfl rfl (pv_add rfl rfl rfl (fit_i64 (by omega))) ?_
        refine xl_pure rfl rfl rfl (pv_move (v := .int _ _) rfl rfl) ?_
        refine xl_nil ?_
        refine xthen_normal ?_
        exact ⟨j + 1, ⟨rfl, rfl, rfl, rfl, trivial⟩, ⟨by (try simp only); omega, ⟨fun _ => by omega, fun _ => by omega⟩, m1_0, hX⟩, by (try simp only); omega⟩
    · skip
      refine xl_nil ?_
      refine xthen_normal ?_
      refine xc_seq ?_
      refine xc_cond_f rfl ?_
      refine xc_exit ?_
      refine xthen_exit ?_
      refine xthen_exit ?_
      refine xblock_same ?_
      refine xthen_normal ?_
      refine xc_seq ?_
      refine xc_region ?_
      refine xl_pure rfl rfl rfl (pv_assign (v := .int _ _) rfl rfl) ?_
      refine xl_pure rfl rfl rfl (pv_assign (v := .int _ _) rfl rfl) ?_
      refine xl_pure rfl rfl rfl (pv_assign (v := .bool _) rfl rfl) ?_
      refine xl_nil ?_
      refine xthen_normal ?_
      refine xc_ret ?_
      refine fin_ret (res3 (v := .int _ _) (x := .int _ _) (y := .bool _) rfl rfl rfl rfl) ?_
      first
        | exact ⟨.inr (.inr ⟨⟨hlo.1 (by omega), hlo.2 (by omega)⟩, rfl⟩), hX⟩
        | (rcases Nat.lt_or_ge j 1 with h | h
           obtain rfl : j = 0 := (by omega)
           exact ⟨.inl ⟨by omega, by subst hbv; rfl⟩, hX⟩
           obtain rfl : j = 1 := (by omega)
           exact ⟨.inr (.inl ⟨by omega, by subst hbv; rfl⟩), hX⟩)

theorem c10 {O : Outer} {H : Heap} (o : Int) :
    FnC Try.prog 10 #[.int .i64 o] O H (fun v H' => ((1048576 < o ∧ o < 2097152) ∧ v = .tuple #[.int .i64 1, .int .i64 (o - 1048576), .bool true] ∨ (2097152 < o ∧ o < 3145728) ∧ v = .tuple #[.int .i64 2, .int .i64 (o - 2097152), .bool true] ∨ (¬ (1048576 < o ∧ o < 2097152) ∧ ¬ (2097152 < o ∧ o < 3145728)) ∧ v = .tuple #[.int .i64 0, .int .i64 0, .bool false]) ∧ Ext H H') := by
  refine fn_enter (A := [.int .i64 o]) Try.func10 rfl rfl ?_
  have hX := Ext.refl H
  refine xc_seq ?_
  refine xc_region ?_
  refine xl_pure rfl rfl rfl (pv_assign (v := .int _ _) rfl rfl) ?_
  refine xl_pure rfl rfl rfl (pv_assign (v := .int _ _) rfl rfl) ?_
  refine xl_pure rfl rfl rfl (pv_assign (v := .bool _) rfl rfl) ?_
  refine xl_nil ?_
  refine xthen_normal ?_
  refine xc_seq ?_
  refine xc_seq ?_
  refine xc_region ?_
  refine xl_pure rfl rfl rfl (pv_move (v := .int _ _) rfl rfl) ?_
  refine xl_dec rfl rfl rfl (pv_gtr rfl rfl rfl) (fun h1_1 => ?_) (fun h1_1 => ?_)
  · skip
    refine xl_pure rfl rfl rfl (pv_move (v := .bool _) rfl rfl) ?_
    refine xl_pure rfl rfl rfl (pv_move (v := .int _ _) rfl rfl) ?_
    refine xl_dec rfl rfl rfl (pv_lss rfl rfl rfl) (fun h1_4 => ?_) (fun h1_4 => ?_)
    · skip
      refine xl_pure rfl rfl rfl (pv_pick_t (v := .bool _) rfl rfl rfl) ?_
      refine xl_nil ?_
      refine xthen_normal ?_
      refine xc_cond_t rfl ?_
      refine xc_seq ?_
      refine xc_region ?_
      refine xl_pure rfl rfl rfl (pv_move (v := .int _ _) rfl rfl) ?_
      refine xl_pure rfl rfl rfl (pv_sub rfl rfl rfl (fit_i64 (by omega))) ?_
      refine xl_pure rfl rfl rfl (pv_assign (v := .int _ _) rfl rfl) ?_
      refine xl_pure rfl rfl rfl (pv_assign (v := .int _ _) rfl rfl) ?_
      refine xl_pure rfl rfl rfl (pv_assign (v := .bool _) rfl rfl) ?_
      refine xl_nil ?_
      refine xthen_normal ?_
      refine xc_ret ?_
      refine xthen_ret ?_
      refine fin_ret (res3 (v := .int _ _) (x := .int _ _) (y := .bool _) rfl rfl rfl rfl) ?_
      first
        | exact ⟨.inl ⟨by omega, rfl⟩, hX⟩
        | exact ⟨.inr (.inl ⟨by omega, rfl⟩), hX⟩
        | exact ⟨.inr (.inr ⟨by omega, rfl⟩), hX⟩
    · skip
      refine xl_pure rfl rfl rfl (pv_pick_t (v := .bool _) rfl rfl rfl) ?_
      refine xl_nil ?_
      refine xthen_normal ?_
      refine xc_cond_f rfl ?_
      refine xc_skip ?_
      refine xthen_normal ?_
      refine xc_seq ?_
      refine xc_seq ?_
      refine xc_region ?_
      refine xl_pure rfl rfl rfl (pv_move (v := .int _ _) rfl rfl) ?_
      refine xl_dec rfl rfl rfl (pv_gtr rfl rfl rfl) (fun h3_1 => ?_) (fun h3_1 => ?_)
      · skip
        refine xl_pure rfl rfl rfl (pv_move (v := .bool _) rfl rfl) ?_
        refine xl_pure rfl rfl rfl (pv_move (v := .int _ _) rfl rfl) ?_
        refine xl_dec rfl rfl rfl (pv_lss rfl rfl rfl) (fun h3_4 => ?_) (fun h3_4 => ?_)
        · skip
          refine xl_pure rfl rfl rfl (pv_pick_t (v := .bool _) rfl rfl rfl) ?_
          refine xl_nil ?_
          refine xthen_normal ?_
          refine xc_cond_t rfl ?_
          refine xc_seq ?_
          refine xc_region ?_
          refine xl_pure rfl rfl rfl (pv_move (v := .int _ _) rfl rfl) ?_
          refine xl_pure rfl rfl rfl (pv_sub rfl rfl rfl (fit_i64 (by omega))) ?_
          refine xl_pure rfl rfl rfl (pv_assign (v := .int _ _) rfl rfl) ?_
          refine xl_pure rfl rfl rfl (pv_assign (v := .int _ _) rfl rfl) ?_
          refine xl_pure rfl rfl rfl (pv_assign (v := .bool _) rfl rfl) ?_
          refine xl_nil ?_
          refine xthen_normal ?_
          refine xc_ret ?_
          refine xthen_ret ?_
          refine fin_ret (res3 (v := .int _ _) (x := .int _ _) (y := .bool _) rfl rfl rfl rfl) ?_
          first
            | exact ⟨.inl ⟨by omega, rfl⟩, hX⟩
            | exact ⟨.inr (.inl ⟨by omega, rfl⟩), hX⟩
            | exact ⟨.inr (.inr ⟨by omega, rfl⟩), hX⟩
        · skip
          refine xl_pure rfl rfl rfl (pv_pick_t (v := .bool _) rfl rfl rfl) ?_
          refine xl_nil ?_
          refine xthen_normal ?_
          refine xc_cond_f rfl ?_
          refine xc_skip ?_
          refine xthen_normal ?_
          refine xc_seq ?_
          refine xc_region ?_
          refine xl_pure rfl rfl rfl (pv_assign (v := .int _ _) rfl rfl) ?_
          refine xl_pure rfl rfl rfl (pv_assign (v := .int _ _) rfl rfl) ?_
          refine xl_pure rfl rfl rfl (pv_assign (v := .bool _) rfl rfl) ?_
          refine xl_nil ?_
          refine xthen_normal ?_
          refine xc_ret ?_
          refine fin_ret (res3 (v := .int _ _) (x := .int _ _) (y := .bool _) rfl rfl rfl rfl) ?_
          first
            | exact ⟨.inl ⟨by omega, rfl⟩, hX⟩
            | exact ⟨.inr (.inl ⟨by omega, rfl⟩), hX⟩
            | exact ⟨.inr (.inr ⟨by omega, rfl⟩), hX⟩
      · skip
        refine xl_pure rfl rfl rfl (pv_move (v := .bool _) rfl rfl) ?_
        refine xl_skip rfl rfl rfl ?_
        refine xl_skip rfl rfl rfl ?_
        refine xl_pure rfl rfl rfl (pv_pick_f (v := .bool _) rfl rfl rfl) ?_
        refine xl_nil ?_
        refine xthen_normal ?_
        refine xc_cond_f rfl ?_
        refine xc_skip ?_
        refine xthen_normal ?_
        refine xc_seq ?_
        refine xc_region ?_
        refine xl_pure rfl rfl rfl (pv_assign (v := .int _ _) rfl rfl) ?_
        refine xl_pure rfl rfl rfl (pv_assign (v := .int _ _) rfl rfl) ?_
        refine xl_pure rfl rfl rfl (pv_assign (v := .bool _) rfl rfl) ?_
        refine xl_nil ?_
        refine xthen_normal ?_
        refine xc_ret ?_
        refine fin_ret (res3 (v := .int _ _) (x := .int _ _) (y := .bool _) rfl rfl rfl rfl) ?_
        first
          | exact ⟨.inl ⟨by omega, rfl⟩, hX⟩
          | exact ⟨.inr (.inl ⟨by omega, rfl⟩), hX⟩
          | exact ⟨.inr (.inr ⟨by omega, rfl⟩), hX⟩
  · skip
    refine xl_pure rfl rfl rfl (pv_move (v := .bool _) rfl rfl) ?_
    refine xl_skip rfl rfl rfl ?_
    refine xl_skip rfl rfl rfl ?_
    refine xl_pure rfl rfl rfl (pv_pick_f (v := .bool _) rfl rfl rfl) ?_
    refine xl_nil ?_
    refine xthen_normal ?_
    refine xc_cond_f rfl ?_
    refine xc_skip ?_
    refine xthen_normal ?_
    refine xc_seq ?_
    refine xc_seq ?_
    refine xc_region ?_
    refine xl_pure rfl rfl rfl (pv_move (v := .int _ _) rfl rfl) ?_
    refine xl_dec rfl rfl rfl (pv_gtr rfl rfl rfl) (fun h3_1 => ?_) (fun h3_1 => ?_)
    · skip
      refine xl_pure rfl rfl rfl (pv_move (v := .bool _) rfl rfl) ?_
      refine xl_pure rfl rfl rfl (pv_move (v := .int _ _) rfl rfl) ?_
      refine xl_dec rfl rfl rfl (pv_lss rfl rfl rfl) (fun h3_4 => ?_) (fun h3_4 => ?_)
      · skip
        refine xl_pure rfl rfl rfl (pv_pick_t (v := .bool _) rfl rfl rfl) ?_
        refine xl_nil ?_
        refine xthen_normal ?_
        refine xc_cond_t rfl ?_
        refine xc_seq ?_
        refine xc_region ?_
        refine xl_pure rfl rfl rfl (pv_move (v := .int _ _) rfl rfl) ?_
        refine xl_pure rfl rfl rfl (pv_sub rfl rfl rfl (fit_i64 (by omega))) ?_
        refine xl_pure rfl rfl rfl (pv_assign (v := .int _ _) rfl rfl) ?_
        refine xl_pure rfl rfl rfl (pv_assign (v := .int _ _) rfl rfl) ?_
        refine xl_pure rfl rfl rfl (pv_assign (v := .bool _) rfl rfl) ?_
        refine xl_nil ?_
        refine xthen_normal ?_
        refine xc_ret ?_
        refine xthen_ret ?_
        refine fin_ret (res3 (v := .int _ _) (x := .int _ _) (y := .bool _) rfl rfl rfl rfl) ?_
        first
          | exact ⟨.inl ⟨by omega, rfl⟩, hX⟩
          | exact ⟨.inr (.inl ⟨by omega, rfl⟩), hX⟩
          | exact ⟨.inr (.inr ⟨by omega, rfl⟩), hX⟩
      · skip
        refine xl_pure rfl rfl rfl (pv_pick_t (v := .bool _) rfl rfl rfl) ?_
        refine xl_nil ?_
        refine xthen_normal ?_
        refine xc_cond_f rfl ?_
        refine xc_skip ?_
        refine xthen_normal ?_
        refine xc_seq ?_
        refine xc_region ?_
        refine xl_pure rfl rfl rfl (pv_assign (v := .int _ _) rfl rfl) ?_
        refine xl_pure rfl rfl rfl (pv_assign (v := .int _ _) rfl rfl) ?_
        refine xl_pure rfl rfl rfl (pv_assign (v := .bool _) rfl rfl) ?_
        refine xl_nil ?_
        refine xthen_normal ?_
        refine xc_ret ?_
        refine fin_ret (res3 (v := .int _ _) (x := .int _ _) (y := .bool _) rfl rfl rfl rfl) ?_
        first
          | exact ⟨.inl ⟨by omega, rfl⟩, hX⟩
          | exact ⟨.inr (.inl ⟨by omega, rfl⟩), hX⟩
          | exact ⟨.inr (.inr ⟨by omega, rfl⟩), hX⟩
    · skip
      refine xl_pure rfl rfl rfl (pv_move (v := .bool _) rfl rfl) ?_
      refine xl_skip rfl rfl rfl ?_
      refine xl_skip rfl rfl rfl ?_
      refine xl_pure rfl rfl rfl (pv_pick_f (v := .bool _) rfl rfl rfl) ?_
      refine xl_nil ?_
      refine xthen_normal ?_
      refine xc_cond_f rfl ?_
      refine xc_skip ?_
      refine xthen_normal ?_
      refine xc_seq ?_
      refine xc_region ?_
      refine xl_pure rfl rfl rfl (pv_assign (v := .int _ _) rfl rfl) ?_
      refine xl_pure rfl rfl rfl (pv_assign (v := .int _ _) rfl rfl) ?_
      refine xl_pure rfl rfl rfl (pv_assign (v := .bool _) rfl rfl) ?_
      refine xl_nil ?_
      refine xthen_normal ?_
      refine xc_ret ?_
      refine fin_ret (res3 (v := .int _ _) (x := .int _ _) (y := .bool _) rfl rfl rfl rfl) ?_
      first
        | exact ⟨.inl ⟨by omega, rfl⟩, hX⟩
        | exact ⟨.inr (.inl ⟨by omega, rfl⟩), hX⟩
        | exact ⟨.inr (.inr ⟨by omega, rfl⟩), hX⟩

theorem c61 {O : Outer} {H : Heap} (p : Int) :
    FnC Try.prog 61 #[.int .i64 p] O H (fun v H' => ((1 ≤ p ∧ p ≤ 8) ∧ v = .bool true ∨ ¬ (1 ≤ p ∧ p ≤ 8) ∧ v = .bool false) ∧ H = H') := by
  refine fn_enter (A := [.int .i64 p]) Try.func61 rfl rfl ?_
  have hX := Ext.refl H
  refine xc_seq ?_
  refine xc_region ?_
  refine xl_pure rfl rfl rfl (pv_assign (v := .bool _) rfl rfl) ?_
  refine xl_nil ?_
  refine xthen_normal ?_
  refine xc_seq ?_
  refine xc_region ?_
  refine xl_pure rfl rfl rfl (pv_move (v := .int _ _) rfl rfl) ?_
  refine xl_dec rfl rfl rfl (pv_geq rfl rfl rfl) (fun h1_1 => ?_) (fun h1_1 => ?_)
  · skip
    refine xl_pure rfl rfl rfl (pv_move (v := .bool _) rfl rfl) ?_
    refine xl_pure rfl rfl rfl (pv_move (v := .int _ _) rfl rfl) ?_
    refine xl_dec rfl rfl rfl (pv_leq rfl rfl rfl) (fun h1_4 => ?_) (fun h1_4 => ?_)
    · skip
      refine xl_pure rfl rfl rfl (pv_pick_t (v := .bool _) rfl rfl rfl) ?_
      refine xl_pure rfl rfl rfl (pv_assign (v := .bool _) rfl rfl) ?_
      refine xl_nil ?_
      refine xthen_normal ?_
      refine xc_ret ?_
      refine fin_ret (res1 (v := .bool _) rfl rfl) ?_
      first
        | exact ⟨.inl ⟨by omega, rfl⟩, rfl⟩
        | exact ⟨.inr ⟨by omega, rfl⟩, rfl⟩
    · skip
      refine xl_pure rfl rfl rfl (pv_pick_t (v := .bool _) rfl rfl rfl) ?_
      refine xl_pure rfl rfl rfl (pv_assign (v := .bool _) rfl rfl) ?_
      refine xl_nil ?_
      refine xthen_normal ?_
      refine xc_ret ?_
      refine fin_ret (res1 (v := .bool _) rfl rfl) ?_
      first
        | exact ⟨.inl ⟨by omega, rfl⟩, rfl⟩
        | exact ⟨.inr ⟨by omega, rfl⟩, rfl⟩
  · skip
    refine xl_pure rfl rfl rfl (pv_move (v := .bool _) rfl rfl) ?_
    refine xl_skip rfl rfl rfl ?_
    refine xl_skip rfl rfl rfl ?_
    refine xl_pure rfl rfl rfl (pv_pick_f (v := .bool _) rfl rfl rfl) ?_
    refine xl_pure rfl rfl rfl (pv_assign (v := .bool _) rfl rfl) ?_
    refine xl_nil ?_
    refine xthen_normal ?_
    refine xc_ret ?_
    refine fin_ret (res1 (v := .bool _) rfl rfl) ?_
    first
      | exact ⟨.inl ⟨by omega, rfl⟩, rfl⟩
      | exact ⟨.inr ⟨by omega, rfl⟩, rfl⟩

theorem c52 {O : Outer} {H : Heap} (o p : Int) :
    FnC Try.prog 52 #[.int .i64 o, .int .i64 p] O H (fun v H' => v = .agg #[.int .i64 o, .int .i64 0, .int .i64 p, .int .i64 1] ∧ Ext H H') := by
  refine fn_enter (A := [.int .i64 o, .int .i64 p]) Try.func52 rfl rfl ?_
  have hX := Ext.refl H
  refine xc_seq ?_
  refine xc_region ?_
  refine xl_heavy rfl rfl rfl (hv_alloc rfl rfl) ?_
  rintro v0_0 H0_0 ⟨b0_0, rfl, hN0_0⟩
  have gb0_0 := hX.fresh hN0_0
  have hX := hX.trans hN0_0.ext
  have m0_0 := hN0_0.blk
  refine xl_nil ?_
  refine xthen_normal ?_
  refine xc_seq ?_
  refine xc_region ?_
  refine xl_pure rfl rfl rfl (pv_move (v := .int _ _) rfl rfl) ?_
  refine xl_pure rfl rfl rfl (pv_move (v := .int _ _) rfl rfl) ?_
  refine xl_pure rfl rfl rfl (pv_build_s (cs := [.int _ _, .int _ _, .int _ _, .int _ _]) rfl rfl rfl) ?_
  refine xl_store rfl rfl (hv_storeA (vs := [.int _ _, .int _ _, .int _ _, .int _ _]) rfl rfl rfl (m0_0) rfl (by rfl) rfl) ?_
  rintro v1_3 H1_3 ⟨hU1_3, hZ1_3⟩
  have hX := hX.upd hU1_3.but gb0_0
  have m0_0 := hU1_3.blk
  refine xl_nil ?_
  refine xthen_normal ?_
  refine xc_ret ?_
  refine fin_ret (resv1 rfl (rv_c (ty := 37) rfl (ld_blk_a m0_0 rfl rfl))) ?_
  exact ⟨rfl, hX⟩

theorem c54 {O : Outer} {H : Heap} (o d p : Int) :
    FnC Try.prog 54 #[.int .i64 o, .int .i64 d, .int .i64 p] O H (fun v H' => v = .agg #[.int .i64 o, .int .i64 d, .int .i64 p, .int .i64 1] ∧ Ext H H') := by
  refine fn_enter (A := [.int .i64 o, .int .i64 d, .int .i64 p]) Try.func54 rfl rfl ?_
  have hX := Ext.refl H
  refine xc_seq ?_
  refine xc_region ?_
  refine xl_heavy rfl rfl rfl (hv_alloc rfl rfl) ?_
  rintro v0_0 H0_0 ⟨b0_0, rfl, hN0_0⟩
  have gb0_0 := hX.fresh hN0_0
  have hX := hX.trans hN0_0.ext
  have m0_0 := hN0_0.blk
  refine xl_nil ?_
  refine xthen_normal ?_
  refine xc_seq ?_
  refine xc_region ?_
  refine xl_pure rfl rfl rfl (pv_move (v := .int _ _) rfl rfl) ?_
  refine xl_pure rfl rfl rfl (pv_move (v := .int _ _) rfl rfl) ?_
  refine xl_pure rfl rfl rfl (pv_move (v := .int _ _) rfl rfl) ?_
  refine xl_pure rfl rfl rfl (pv_build_s (cs := [.int _ _, .int _ _, .int _ _, .int _ _]) rfl rfl rfl) ?_
  refine xl_store rfl rfl (hv_storeA (vs := [.int _ _, .int _ _, .int _ _, .int _ _]) rfl rfl rfl (m0_0) rfl (by rfl) rfl) ?_
  rintro v1_4 H1_4 ⟨hU1_4, hZ1_4⟩
  have hX := hX.upd hU1_4.but gb0_0
  have m0_0 := hU1_4.blk
  refine xl_nil ?_
  refine xthen_normal ?_
  refine xc_ret ?_
  refine fin_ret (resv1 rfl (rv_c (ty := 37) rfl (ld_blk_a m0_0 rfl rfl))) ?_
  exact ⟨rfl, hX⟩

theorem c56 {O : Outer} {H : Heap} {bp c : Nat} {a : Option Addr} {l : List (List Int)} {T : List Int} (mp : Blk H bp (.slice a (l).length c :: ints (T)) 87) (hR : RowsT H 138 5 a l) (hc : l.length ≤ c) (hna : a = none → c = 0) (hl : l.length < 800000) (hg : GooL l) (ht : Tots l T) {sa : Option Addr} {sc : Nat} {s : List Stack} (hS : StksO H bp sa s) (hsl : s.length < 1099511627776) {b0 b1 b2 b3 : Nat} {f0 f1 f2 f3 o : Int} (m0 : Blk H b0 [.pointer (some ⟨bp, 0, none⟩)] 31) (m1 : Blk H b1 [.int .i64 f0, .int .i64 f1, .int .i64 f2, .int .i64 f3] 37) (m2 : Blk H b2 [.slice sa s.length sc] 38) (m3 : Blk H b3 [.int .i64 o] 3) :
    FnC Try.prog 56 #[.pointer (some ⟨b0, 0, none⟩), .pointer (some ⟨b1, 0, none⟩), .pointer (some ⟨b2, 0, none⟩), .pointer (some ⟨b3, 0, none⟩)] O H (fun v H' => ∃ a' c' T', v = .int .i64 (moE l f0 f1 f2 o 0 f2 s) ∧ But bp H H' ∧ Blk H' bp (.slice a' (moR l f0 f1 f2 o 0 f2 s).length c' :: ints (T')) 87 ∧ RowsT H' 138 5 a' (moR l f0 f1 f2 o 0 f2 s) ∧ (moR l f0 f1 f2 o 0 f2 s).length ≤ c' ∧ (a' = none → c' = 0) ∧ Tots (moR l f0 f1 f2 o 0 f2 s) T') := by
  refine fn_enter (A := [.pointer (some ⟨b0, 0, none⟩), .pointer (some ⟨b1, 0, none⟩), .pointer (some ⟨b2, 0, none⟩), .pointer (some ⟨b3, 0, none⟩)]) Try.func56 rfl rfl ?_
  have hX := But.refl bp H
  refine xc_seq ?_
  refine xc_region ?_
  refine xl_pure rfl rfl rfl (pv_assign (v := .int _ _) rfl rfl) ?_
  refine xl_nil ?_
  refine xthen_normal ?_
  refine xc_seq ?_
  refine xc_seq ?_
  refine xc_region ?_
  refine xl_light rfl rfl rfl (lv_load (v := .pointer _) rfl rfl (ld_blk m0 rfl)) ?_
  refine xl_light rfl rfl rfl (lv_load (v := .agg _) rfl rfl (ld_blk_a m1 rfl rfl)) ?_
  refine xl_light rfl rfl rfl (lv_load (v := .slice _ _ _) rfl rfl (ld_blk m2 rfl)) ?_
  refine xl_heavy rfl rfl rfl (hv_call (g := 57) rfl rfl (c57 mp hR hc hna (by omega) hg ht f0 f1 f2 f3 (hS.butO hX) hsl) rfl) ?_
  rintro v1_3 H1_3 ⟨a1_3, c1_3, T1_3, rfl, hB1_3, hT1_3, hR1_3, hc1_3, hna1_3, ht1_3⟩
  have hR := hR.offT mp hB1_3 (by first | rfl | assumption)
  have m0 := m0.off hB1_3 (by first | exact nmp_0.symm | exact ⟨m0.ne mp rfl⟩ | exact ⟨m0.ne mp (by assumption)⟩ | exact ⟨Ne.symm (mp.ne m0 (by assumption))⟩)
  have m1 := m1.off hB1_3 (by first | exact nmp_1.symm | exact ⟨m1.ne mp rfl⟩ | exact ⟨m1.ne mp (by assumption)⟩ | exact ⟨Ne.symm (mp.ne m1 (by assumption))⟩)
  have m2 := m2.off hB1_3 (by first | exact nmp_2.symm | exact ⟨m2.ne mp rfl⟩ | exact ⟨m2.ne mp (by assumption)⟩ | exact ⟨Ne.symm (mp.ne m2 (by assumption))⟩)
  have m3 := m3.off hB1_3 (by first | exact nmp_3.symm | exact ⟨m3.ne mp rfl⟩ | exact ⟨m3.ne mp (by assumption)⟩ | exact ⟨Ne.symm (mp.ne m3 (by assumption))⟩)
  have hX := hX.trans hB1_3
  have mp := hT1_3
  refine xl_pure rfl rfl rfl (pv_assign (v := .int _ _) rfl rfl) ?_
  refine xl_nil ?_
  refine xthen_normal ?_
  refine xc_seq ?_
  refine xc_region ?_
  refine xl_pure rfl rfl rfl (pv_move (v := .int _ _) rfl rfl) ?_
  refine xl_ndec rfl rfl rfl (pv_neq rfl rfl rfl) (fun h2_1 => ?_) (fun h2_1 => ?_)
  · skip
    refine xl_nil ?_
    refine xthen_normal ?_
    refine xc_cond_f rfl ?_
    refine xc_skip ?_
    refine xthen_normal ?_
    refine xc_seq ?_
    obtain ⟨hg1, hl1⟩ := goo_all (d := false) (k0 := f0) (k1 := f1) (k2 := f2) (s := s) hg
    refine xp_start rfl (by repeat (first | with_reducible exact np_fin | with_reducible exact np_ret | with_reducible refine np_then ?_ | with_reducible refine np_block ?_)) (by kernel_rfl) ?_
    refine xp_light (i := 0) rfl (by kernel_rfl) (by kernel_rfl) rfl rfl rfl (lv_load (v := .pointer _) rfl rfl (ld_blk m0 rfl)) ?_
    refine xp_light (i := 1) rfl (by kernel_rfl) (by kernel_rfl) rfl rfl rfl (lv_load (v := .int _ _) rfl rfl (ld_blk m3 rfl)) ?_
    refine xp_pure (i := 2) rfl (by kernel_rfl) (by kernel_rfl) rfl rfl rfl (pv_fieldAddr rfl rfl) ?_
    refine xp_light (i := 3) rfl (by kernel_rfl) (by kernel_rfl) rfl rfl rfl (lv_load (v := .int _ _) rfl rfl (ld_blk m1 rfl)) ?_
    refine xp_light (i := 5) rfl (by kernel_rfl) (by kernel_rfl) rfl rfl rfl (lv_load (v := .slice _ _ _) rfl rfl (ld_blk m2 rfl)) ?_
    refine xp_heavy (i := 4) (by kernel_rfl) ?_
    refine xph_val rfl rfl rfl rfl (hv_call (g := 52) rfl rfl (c52 o f2) rfl) (pk (by kernel_rfl) (pd (by kernel_rfl) (pd (by kernel_rfl) (pk (by kernel_rfl) pn)))) ?_
    rintro v4_4 H4_4 ⟨rfl, hE4_4⟩
    have mp := mp.ext hE4_4
    have hR := hR.ext hE4_4
    have m0 := m0.ext hE4_4
    have m1 := m1.ext hE4_4
    have m2 := m2.ext hE4_4
    have m3 := m3.ext hE4_4
    have hR1_3 := hR1_3.ext hE4_4
    have hX := hX.transE hE4_4
    refine ⟨(okc (lv_load (v := .slice _ _ _) rfl rfl (ld_blk m2 rfl)) (okc (lv_load (v := .pointer _) rfl rfl (ld_blk m0 rfl)) okn)), ?_⟩
    refine xp_heavy (i := 6) (by kernel_rfl) ?_
    refine xph_val rfl rfl rfl rfl (hv_call (g := 58) rfl rfl (c58 mp hR1_3 hc1_3 hna1_3 (by omega) hg1 ht1_3 o 0 f2 1 (hS.butO hX) hsl) rfl) (pd (by kernel_rfl) (pd (by kernel_rfl) pn)) ?_
    rintro v4_6 H4_6 ⟨a4_6, c4_6, T4_6, rfl, hB4_6, hT4_6, hR4_6, hc4_6, hna4_6, ht4_6⟩
    have hR := hR.offT mp hB4_6 (by first | rfl | assumption)
    have m0 := m0.off hB4_6 (by first | exact nmp_0.symm | exact ⟨m0.ne mp rfl⟩ | exact ⟨m0.ne mp (by assumption)⟩ | exact ⟨Ne.symm (mp.ne m0 (by assumption))⟩)
    have m1 := m1.off hB4_6 (by first | exact nmp_1.symm | exact ⟨m1.ne mp rfl⟩ | exact ⟨m1.ne mp (by assumption)⟩ | exact ⟨Ne.symm (mp.ne m1 (by assumption))⟩)
    have m2 := m2.off hB4_6 (by first | exact nmp_2.symm | exact ⟨m2.ne mp rfl⟩ | exact ⟨m2.ne mp (by assumption)⟩ | exact ⟨Ne.symm (mp.ne m2 (by assumption))⟩)
    have m3 := m3.off hB4_6 (by first | exact nmp_3.symm | exact ⟨m3.ne mp rfl⟩ | exact ⟨m3.ne mp (by assumption)⟩ | exact ⟨Ne.symm (mp.ne m3 (by assumption))⟩)
    have hR1_3 := hR1_3.offT mp hB4_6 (by first | rfl | assumption)
    have hX := hX.trans hB4_6
    have mp := hT4_6
    refine ⟨okn, ?_⟩
    refine xp_pure (i := 7) rfl (by kernel_rfl) (by kernel_rfl) rfl rfl rfl (pv_assign (v := .int _ _) rfl rfl) ?_
    refine xp_done (by kernel_rfl) ?_
    refine xthen_normal ?_
    refine xc_ret ?_
    refine fin_ret (res1 (v := .int _ _) rfl rfl) ?_
    obtain ⟨e1, e2⟩ := mo_go (t0 := o) (t1 := 0) (t2 := f2) (h2_1)
    exact ⟨_, _, _, by rw [e1], hX, by rw [e2]; exact mp, by rw [e2]; exact hR4_6, by rw [e2]; exact hc4_6, hna4_6, by rw [e2]; exact ht4_6⟩
  · skip
    refine xl_nil ?_
    refine xthen_normal ?_
    refine xc_cond_t rfl ?_
    refine xc_seq ?_
    refine xc_region ?_
    refine xl_pure rfl rfl rfl (pv_move (v := .int _ _) rfl rfl) ?_
    refine xl_pure rfl rfl rfl (pv_assign (v := .int _ _) rfl rfl) ?_
    refine xl_nil ?_
    refine xthen_normal ?_
    refine xc_ret ?_
    refine xthen_ret ?_
    refine fin_ret (res1 (v := .int _ _) rfl rfl) ?_
    obtain ⟨e1, e2, _⟩ := mo_no (t0 := o) (t1 := 0) (t2 := f2) h2_1
    have e3 := all_no h2_1
    rw [e3] at mp hR1_3 hc1_3 ht1_3
    exact ⟨_, _, _, by rw [e1], hX, by rw [e2]; exact mp, by rw [e2]; exact hR1_3, by rw [e2]; exact hc1_3, hna1_3, by rw [e2]; exact ht1_3⟩

/-- The deferred call: it was an error, so the bins are as they were. -/

theorem c84 {O : Outer} {H : Heap} {be bw bb bq bp n c n1 c1 : Nat} {a a1 : Option Addr} {T T1 : List Int} {e : Int} (me : Blk H be [.int .i64 e] 22) (mw : Blk H bw [.pointer (some ⟨bq, 0, none⟩)] 31) (mb : Blk H bb [.pointer (some ⟨bp, 0, none⟩)] 31) (mq : Blk H bq (.slice a n c :: ints (T)) 87) (mp : Blk H bp (.slice a1 n1 c1 :: ints (T1)) 87) (hT : T.length = 33) (hT1 : T1.length = 33) (hne : Apart bq bp) :
    DfC Try.prog 84 #[.pointer (some ⟨be, 0, none⟩), .pointer (some ⟨bw, 0, none⟩), .pointer (some ⟨bb, 0, none⟩)] O H (fun H' => (e = 0 ∧ Blk H' bp (.slice a1 n1 c1 :: ints (T1)) 87 ∨ e ≠ 0 ∧ Blk H' bp (.slice a n c :: ints (T)) 87) ∧ But bp H H') := by
  refine df_enter (A := [.pointer (some ⟨be, 0, none⟩), .pointer (some ⟨bw, 0, none⟩), .pointer (some ⟨bb, 0, none⟩)]) Try.func84 rfl rfl ?_
  have hX := But.refl bp H
  refine xc_seq ?_
  refine xc_region ?_
  refine xl_light rfl rfl rfl (lv_load (v := .int _ _) rfl rfl (ld_blk me rfl)) ?_
  refine xl_ndec rfl rfl rfl (pv_neq rfl rfl rfl) (fun h0_1 => ?_) (fun h0_1 => ?_)
  · skip
    refine xl_nil ?_
    refine xthen_normal ?_
    refine xc_cond_f rfl ?_
    refine xc_skip ?_
    refine finN_normal (res0 rfl) ?_
    exact ⟨.inl ⟨by omega, mp⟩, hX⟩
  · skip
    refine xl_nil ?_
    refine xthen_normal ?_
    refine xc_cond_t rfl ?_
    refine xp_start rfl (by repeat (first | with_reducible exact np_fin | with_reducible exact np_finN | with_reducible exact np_ret | with_reducible refine np_then ?_ | with_reducible refine np_block ?_)) (by kernel_rfl) ?_
    refine xp_light (i := 0) rfl (by kernel_rfl) (by kernel_rfl) rfl rfl rfl (lv_load (v := .pointer _) rfl rfl (ld_blk mb rfl)) ?_
    refine xp_light (i := 1) rfl (by kernel_rfl) (by kernel_rfl) rfl rfl rfl (lv_load (v := .pointer _) rfl rfl (ld_blk mw rfl)) ?_
    refine xp_pure (i := 2) rfl (by kernel_rfl) (by kernel_rfl) rfl rfl rfl (pv_nilCheck_p rfl rfl) ?_
    refine xp_light (i := 3) rfl (by kernel_rfl) (by kernel_rfl) rfl rfl rfl (lv_load (v := .agg _) rfl rfl (by exact ld_bins mq hT)) ?_
    refine xp_pure (i := 4) rfl (by kernel_rfl) (by kernel_rfl) rfl rfl rfl (pv_nilCheck_p rfl rfl) ?_
    refine xp_heavy (i := 5) (by kernel_rfl) ?_
    refine xph_store rfl rfl rfl (hv_storeA (vs := (.slice a n c :: ints (T))) rfl rfl rfl (mp) (bins_len hT) (by simp [ints, hT1]) bins_one) (pd (by kernel_rfl) (pd (by kernel_rfl) (pd (by kernel_rfl) pn))) ?_
    rintro v1_5 H1_5 ⟨hU1_5, hZ1_5⟩
    have me := me.off hU1_5.but (by first | exact nmp_me.symm | exact ⟨me.ne mp rfl⟩ | exact ⟨me.ne mp (by assumption)⟩ | exact ⟨Ne.symm (mp.ne me (by assumption))⟩)
    have mw := mw.off hU1_5.but (by first | exact nmp_mw.symm | exact ⟨mw.ne mp rfl⟩ | exact ⟨mw.ne mp (by assumption)⟩ | exact ⟨Ne.symm (mp.ne mw (by assumption))⟩)
    have mb := mb.off hU1_5.but (by first | exact nmp_mb.symm | exact ⟨mb.ne mp rfl⟩ | exact ⟨mb.ne mp (by assumption)⟩ | exact ⟨Ne.symm (mp.ne mb (by assumption))⟩)
    have mq := mq.off hU1_5.but (by first | exact hne | exact ⟨mq.ne mp rfl⟩ | exact ⟨mq.ne mp (by assumption)⟩ | exact ⟨Ne.symm (mp.ne mq (by assumption))⟩)
    have hX := hX.trans hU1_5.but
    have mp := hU1_5.blk
    refine ⟨okn, ?_⟩
    refine xp_done (by kernel_rfl) ?_
    refine finN_normal (res0 rfl) ?_
    first
      | exact ⟨.inr ⟨h0_1, mp⟩, hX⟩
      | exact ⟨.inl ⟨by omega, mp⟩, hX⟩
end Go.XG
