/-
  Walks of the seat's functions over the logic XG: each function, what it computes. Printed by a program out of wip/walks.py.
-/
import Derived.Test.YtpppiliakgoihaaI
import Derived.Test.YtpppiliakgoihaaG
import Derived.Test.YtpppiliakgoihaaP
import Derived.Test.YtpppiliakgoihaaWa
import Derived.Test.YtpppiliakgoihaaWb
import Derived.Test.YtpppiliakgoihaaWc
import Derived.Test.YtpppiliakgoihaaWd
import Derived.Test.YtpppiliakgoihaaQ
import Derived.Test.YtpppiliakgoihaaR
import Derived.Test.YtpppiliakgoihaaXg
namespace Go.XG
open Go.Proofs
set_option maxRecDepth 4000
set_option maxHeartbeats 4000000
theorem c22 {O : Outer} {H : Heap} (d : D) (a b : Option Addr) (c e : Nat) :
    FnC Try.prog 22 #[.agg (dcs d a b c e).toArray] O H (fun v H' => ∃ r, v = .bool r ∧ (r = true ↔ d.st ≠ 1 ∧ d.st ≠ 2) ∧ Ext H H') := by
  refine fn_enter (A := [.agg (dcs d a b c e).toArray]) Try.func22 rfl rfl ?_
  refine xc_seq ?_
  refine xc_region ?_
  refine xl_heavy rfl rfl rfl (hv_box rfl rfl) ?_
  rintro v0_0 H0_0 ⟨b0_0, rfl, hN0_0⟩
  refine xl_pure rfl rfl rfl (pv_assign (v := .bool _) rfl rfl) ?_
  refine xl_nil ?_
  refine xthen_normal ?_
  refine xc_seq ?_
  refine xc_region ?_
  refine xl_pure rfl rfl rfl (pv_fieldAddr rfl rfl) ?_
  refine xl_light rfl rfl rfl (lv_load (v := .int _ _) rfl rfl (by first | exact ld_blk hN0_0.blk rfl)) ?_
  refine xl_ndec rfl rfl rfl (pv_neq rfl rfl rfl) (fun h1_2 => ?_) (fun h1_2 => ?_)
  · skip
    refine xl_pure rfl rfl rfl (pv_move (v := .bool _) rfl rfl) ?_
    refine xl_skip rfl rfl rfl ?_
    refine xl_skip rfl rfl rfl ?_
    refine xl_skip rfl rfl rfl ?_
    refine xl_pure rfl rfl rfl (pv_pick_f (v := .bool _) rfl rfl rfl) ?_
    refine xl_pure rfl rfl rfl (pv_assign (v := .bool _) rfl rfl) ?_
    refine xl_nil ?_
    refine xthen_normal ?_
    refine xc_ret ?_
    refine fin_ret (res1 (v := .bool _) rfl rfl) ?_
    first
      | exact ⟨_, rfl, ⟨fun _ => by omega, fun _ => rfl⟩, hN0_0.ext⟩
      | exact ⟨_, rfl, ⟨fun h => absurd h (by decide), fun h => by omega⟩, hN0_0.ext⟩
  · skip
    refine xl_pure rfl rfl rfl (pv_move (v := .bool _) rfl rfl) ?_
    refine xl_pure rfl rfl rfl (pv_fieldAddr rfl rfl) ?_
    refine xl_light rfl rfl rfl (lv_load (v := .int _ _) rfl rfl (by first | exact ld_blk hN0_0.blk rfl)) ?_
    refine xl_ndec rfl rfl rfl (pv_neq rfl rfl rfl) (fun h1_6 => ?_) (fun h1_6 => ?_)
    · skip
      refine xl_pure rfl rfl rfl (pv_pick_t (v := .bool _) rfl rfl rfl) ?_
      refine xl_pure rfl rfl rfl (pv_assign (v := .bool _) rfl rfl) ?_
      refine xl_nil ?_
      refine xthen_normal ?_
      refine xc_ret ?_
      refine fin_ret (res1 (v := .bool _) rfl rfl) ?_
      first
        | exact ⟨_, rfl, ⟨fun _ => by omega, fun _ => rfl⟩, hN0_0.ext⟩
        | exact ⟨_, rfl, ⟨fun h => absurd h (by decide), fun h => by omega⟩, hN0_0.ext⟩
    · skip
      refine xl_pure rfl rfl rfl (pv_pick_t (v := .bool _) rfl rfl rfl) ?_
      refine xl_pure rfl rfl rfl (pv_assign (v := .bool _) rfl rfl) ?_
      refine xl_nil ?_
      refine xthen_normal ?_
      refine xc_ret ?_
      refine fin_ret (res1 (v := .bool _) rfl rfl) ?_
      first
        | exact ⟨_, rfl, ⟨fun _ => by omega, fun _ => rfl⟩, hN0_0.ext⟩
        | exact ⟨_, rfl, ⟨fun h => absurd h (by decide), fun h => by omega⟩, hN0_0.ext⟩

theorem c23 {O : Outer} {H : Heap} (d : D) (a b : Option Addr) (c e : Nat) :
    FnC Try.prog 23 #[.agg (dcs d a b c e).toArray] O H (fun v H' => ∃ r, v = .bool r ∧ (r = true ↔ d.st ≠ 1 ∧ d.st ≠ 2) ∧ Ext H H') := by
  refine fn_enter (A := [.agg (dcs d a b c e).toArray]) Try.func23 rfl rfl ?_
  refine xc_seq ?_
  refine xc_region ?_
  refine xl_heavy rfl rfl rfl (hv_box rfl rfl) ?_
  rintro v0_0 H0_0 ⟨b0_0, rfl, hN0_0⟩
  refine xl_pure rfl rfl rfl (pv_assign (v := .bool _) rfl rfl) ?_
  refine xl_nil ?_
  refine xthen_normal ?_
  refine xc_seq ?_
  refine xc_region ?_
  refine xl_pure rfl rfl rfl (pv_fieldAddr rfl rfl) ?_
  refine xl_light rfl rfl rfl (lv_load (v := .int _ _) rfl rfl (by first | exact ld_blk hN0_0.blk rfl)) ?_
  refine xl_ndec rfl rfl rfl (pv_neq rfl rfl rfl) (fun h1_2 => ?_) (fun h1_2 => ?_)
  · skip
    refine xl_pure rfl rfl rfl (pv_move (v := .bool _) rfl rfl) ?_
    refine xl_skip rfl rfl rfl ?_
    refine xl_skip rfl rfl rfl ?_
    refine xl_skip rfl rfl rfl ?_
    refine xl_pure rfl rfl rfl (pv_pick_f (v := .bool _) rfl rfl rfl) ?_
    refine xl_pure rfl rfl rfl (pv_assign (v := .bool _) rfl rfl) ?_
    refine xl_nil ?_
    refine xthen_normal ?_
    refine xc_ret ?_
    refine fin_ret (res1 (v := .bool _) rfl rfl) ?_
    first
      | exact ⟨_, rfl, ⟨fun _ => by omega, fun _ => rfl⟩, hN0_0.ext⟩
      | exact ⟨_, rfl, ⟨fun h => absurd h (by decide), fun h => by omega⟩, hN0_0.ext⟩
  · skip
    refine xl_pure rfl rfl rfl (pv_move (v := .bool _) rfl rfl) ?_
    refine xl_pure rfl rfl rfl (pv_fieldAddr rfl rfl) ?_
    refine xl_light rfl rfl rfl (lv_load (v := .int _ _) rfl rfl (by first | exact ld_blk hN0_0.blk rfl)) ?_
    refine xl_ndec rfl rfl rfl (pv_neq rfl rfl rfl) (fun h1_6 => ?_) (fun h1_6 => ?_)
    · skip
      refine xl_pure rfl rfl rfl (pv_pick_t (v := .bool _) rfl rfl rfl) ?_
      refine xl_pure rfl rfl rfl (pv_assign (v := .bool _) rfl rfl) ?_
      refine xl_nil ?_
      refine xthen_normal ?_
      refine xc_ret ?_
      refine fin_ret (res1 (v := .bool _) rfl rfl) ?_
      first
        | exact ⟨_, rfl, ⟨fun _ => by omega, fun _ => rfl⟩, hN0_0.ext⟩
        | exact ⟨_, rfl, ⟨fun h => absurd h (by decide), fun h => by omega⟩, hN0_0.ext⟩
    · skip
      refine xl_pure rfl rfl rfl (pv_pick_t (v := .bool _) rfl rfl rfl) ?_
      refine xl_pure rfl rfl rfl (pv_assign (v := .bool _) rfl rfl) ?_
      refine xl_nil ?_
      refine xthen_normal ?_
      refine xc_ret ?_
      refine fin_ret (res1 (v := .bool _) rfl rfl) ?_
      first
        | exact ⟨_, rfl, ⟨fun _ => by omega, fun _ => rfl⟩, hN0_0.ext⟩
        | exact ⟨_, rfl, ⟨fun h => absurd h (by decide), fun h => by omega⟩, hN0_0.ext⟩

theorem c32 {O : Outer} {H : Heap} (d : D) (a b : Option Addr) (c e : Nat) (s : Int) :
    FnC Try.prog 32 #[.agg (dcs d a b c e).toArray, .int .i64 s] O H (fun v H' => ∃ r, v = .bool r ∧ (r = true ↔ Ends d s) ∧ Ext H H') := by
  refine fn_enter (A := [.agg (dcs d a b c e).toArray, .int .i64 s]) Try.func32 rfl rfl ?_
  refine xc_seq ?_
  refine xc_region ?_
  refine xl_heavy rfl rfl rfl (hv_box rfl rfl) ?_
  rintro v0_0 H0_0 ⟨b0_0, rfl, hN0_0⟩
  refine xl_pure rfl rfl rfl (pv_assign (v := .bool _) rfl rfl) ?_
  refine xl_nil ?_
  refine xthen_normal ?_
  refine xc_seq ?_
  refine xc_seq ?_
  refine xc_region ?_
  refine xl_pure rfl rfl rfl (pv_fieldAddr rfl rfl) ?_
  refine xl_light rfl rfl rfl (lv_load (v := .int _ _) rfl rfl (by first | exact ld_blk hN0_0.blk rfl)) ?_
  refine xl_pure rfl rfl rfl (pv_move (v := .int _ _) rfl rfl) ?_
  refine xl_pure rfl rfl rfl (pv_build_a (cs := [.int _ _, .int _ _]) rfl rfl rfl) ?_
  refine xl_nil ?_
  refine xthen_normal ?_
  refine xc_block ?_
  refine xc_seq ?_
  refine xc_seq ?_
  refine xc_region ?_
  refine xl_pure rfl rfl rfl (pv_build_a (cs := [.int _ _, .int _ _]) rfl rfl rfl) ?_
  refine xl_dec rfl rfl rfl (pv_eql_ai [d.st, s] [2, 3] rfl rfl rfl rfl rfl) (fun h2_1 => ?_) (fun h2_1 => ?_)
  · skip
    simp only [List.cons.injEq, and_true] at h2_1
    refine xl_pure rfl rfl rfl (pv_assign (v := .bool _) rfl rfl) ?_
    refine xl_nil ?_
    refine xthen_normal ?_
    refine xc_cond_t rfl ?_
    refine xc_skip ?_
    refine xthen_normal ?_
    refine xc_cond_t rfl ?_
    refine xc_seq ?_
    refine xc_region ?_
    refine xl_pure rfl rfl rfl (pv_assign (v := .bool _) rfl rfl) ?_
    refine xl_nil ?_
    refine xthen_normal ?_
    refine xc_ret ?_
    refine xblock_ret ?_
    refine xthen_ret ?_
    refine fin_ret (res1 (v := .bool _) rfl rfl) ?_
    unfold Ends
    first
      | exact ⟨_, rfl, ⟨fun _ => by omega, fun _ => rfl⟩, hN0_0.ext⟩
      | exact ⟨_, rfl, ⟨fun h => absurd h (by decide), fun h => by omega⟩, hN0_0.ext⟩
  · skip
    simp only [List.cons.injEq, and_true] at h2_1
    refine xl_pure rfl rfl rfl (pv_assign (v := .bool _) rfl rfl) ?_
    refine xl_nil ?_
    refine xthen_normal ?_
    refine xc_cond_f rfl ?_
    refine xc_seq ?_
    refine xc_region ?_
    refine xl_pure rfl rfl rfl (pv_build_a (cs := [.int _ _, .int _ _]) rfl rfl rfl) ?_
    refine xl_dec rfl rfl rfl (pv_eql_ai [d.st, s] [2, 4] rfl rfl rfl rfl rfl) (fun h3_1 => ?_) (fun h3_1 => ?_)
    · skip
      simp only [List.cons.injEq, and_true] at h3_1
      refine xl_pure rfl rfl rfl (pv_assign (v := .bool _) rfl rfl) ?_
      refine xl_nil ?_
      refine xthen_normal ?_
      refine xc_cond_t rfl ?_
      refine xc_skip ?_
      refine xthen_normal ?_
      refine xc_cond_t rfl ?_
      refine xc_seq ?_
      refine xc_region ?_
      refine xl_pure rfl rfl rfl (pv_assign (v := .bool _) rfl rfl) ?_
      refine xl_nil ?_
      refine xthen_normal ?_
      refine xc_ret ?_
      refine xblock_ret ?_
      refine xthen_ret ?_
      refine fin_ret (res1 (v := .bool _) rfl rfl) ?_
      unfold Ends
      first
        | exact ⟨_, rfl, ⟨fun _ => by omega, fun _ => rfl⟩, hN0_0.ext⟩
        | exact ⟨_, rfl, ⟨fun h => absurd h (by decide), fun h => by omega⟩, hN0_0.ext⟩
    · skip
      simp only [List.cons.injEq, and_true] at h3_1
      refine xl_pure rfl rfl rfl (pv_assign (v := .bool _) rfl rfl) ?_
      refine xl_nil ?_
      refine xthen_normal ?_
      refine xc_cond_f rfl ?_
      refine xc_seq ?_
      refine xc_region ?_
      refine xl_pure rfl rfl rfl (pv_build_a (cs := [.int _ _, .int _ _]) rfl rfl rfl) ?_
      refine xl_dec rfl rfl rfl (pv_eql_ai [d.st, s] [1, 6] rfl rfl rfl rfl rfl) (fun h4_1 => ?_) (fun h4_1 => ?_)
      · skip
        simp only [List.cons.injEq, and_true] at h4_1
        refine xl_pure rfl rfl rfl (pv_assign (v := .bool _) rfl rfl) ?_
        refine xl_nil ?_
        refine xthen_normal ?_
        refine xc_cond_t rfl ?_
        refine xc_skip ?_
        refine xthen_normal ?_
        refine xc_cond_t rfl ?_
        refine xc_seq ?_
        refine xc_region ?_
        refine xl_pure rfl rfl rfl (pv_assign (v := .bool _) rfl rfl) ?_
        refine xl_nil ?_
        refine xthen_normal ?_
        refine xc_ret ?_
        refine xblock_ret ?_
        refine xthen_ret ?_
        refine fin_ret (res1 (v := .bool _) rfl rfl) ?_
        unfold Ends
        first
          | exact ⟨_, rfl, ⟨fun _ => by omega, fun _ => rfl⟩, hN0_0.ext⟩
          | exact ⟨_, rfl, ⟨fun h => absurd h (by decide), fun h => by omega⟩, hN0_0.ext⟩
      · skip
        simp only [List.cons.injEq, and_true] at h4_1
        refine xl_pure rfl rfl rfl (pv_assign (v := .bool _) rfl rfl) ?_
        refine xl_nil ?_
        refine xthen_normal ?_
        refine xc_cond_f rfl ?_
        refine xc_region ?_
        refine xl_pure rfl rfl rfl (pv_build_a (cs := [.int _ _, .int _ _]) rfl rfl rfl) ?_
        refine xl_dec rfl rfl rfl (pv_eql_ai [d.st, s] [1, 7] rfl rfl rfl rfl rfl) (fun h5_1 => ?_) (fun h5_1 => ?_)
        · skip
          simp only [List.cons.injEq, and_true] at h5_1
          refine xl_pure rfl rfl rfl (pv_assign (v := .bool _) rfl rfl) ?_
          refine xl_nil ?_
          refine xthen_normal ?_
          refine xc_cond_t rfl ?_
          refine xc_seq ?_
          refine xc_region ?_
          refine xl_pure rfl rfl rfl (pv_assign (v := .bool _) rfl rfl) ?_
          refine xl_nil ?_
          refine xthen_normal ?_
          refine xc_ret ?_
          refine xblock_ret ?_
          refine xthen_ret ?_
          refine fin_ret (res1 (v := .bool _) rfl rfl) ?_
          unfold Ends
          first
            | exact ⟨_, rfl, ⟨fun _ => by omega, fun _ => rfl⟩, hN0_0.ext⟩
            | exact ⟨_, rfl, ⟨fun h => absurd h (by decide), fun h => by omega⟩, hN0_0.ext⟩
        · skip
          simp only [List.cons.injEq, and_true] at h5_1
          refine xl_pure rfl rfl rfl (pv_assign (v := .bool _) rfl rfl) ?_
          refine xl_nil ?_
          refine xthen_normal ?_
          refine xc_cond_f rfl ?_
          refine xc_seq ?_
          refine xc_region ?_
          refine xl_pure rfl rfl rfl (pv_build_a (cs := [.int _ _, .int _ _]) rfl rfl rfl) ?_
          refine xl_dec rfl rfl rfl (pv_eql_ai [d.st, s] [1, 5] rfl rfl rfl rfl rfl) (fun h7_1 => ?_) (fun h7_1 => ?_)
          · skip
            simp only [List.cons.injEq, and_true] at h7_1
            refine xl_pure rfl rfl rfl (pv_assign (v := .bool _) rfl rfl) ?_
            refine xl_nil ?_
            refine xthen_normal ?_
            refine xc_cond_t rfl ?_
            refine xc_seq ?_
            refine xc_region ?_
            refine xl_pure rfl rfl rfl (pv_fieldAddr rfl rfl) ?_
            refine xl_light rfl rfl rfl (lv_load (v := .int _ _) rfl rfl (by first | exact ld_blk hN0_0.blk rfl)) ?_
            refine xl_ndec rfl rfl rfl (pv_neq rfl rfl rfl) (fun h8_2 => ?_) (fun h8_2 => ?_)
            · skip
              refine xl_pure rfl rfl rfl (pv_assign (v := .bool _) rfl rfl) ?_
              refine xl_nil ?_
              refine xthen_normal ?_
              refine xc_ret ?_
              refine xblock_ret ?_
              refine xthen_ret ?_
              refine fin_ret (res1 (v := .bool _) rfl rfl) ?_
              unfold Ends
              first
                | exact ⟨_, rfl, ⟨fun _ => by omega, fun _ => rfl⟩, hN0_0.ext⟩
                | exact ⟨_, rfl, ⟨fun h => absurd h (by decide), fun h => by omega⟩, hN0_0.ext⟩
            · skip
              refine xl_pure rfl rfl rfl (pv_assign (v := .bool _) rfl rfl) ?_
              refine xl_nil ?_
              refine xthen_normal ?_
              refine xc_ret ?_
              refine xblock_ret ?_
              refine xthen_ret ?_
              refine fin_ret (res1 (v := .bool _) rfl rfl) ?_
              unfold Ends
              first
                | exact ⟨_, rfl, ⟨fun _ => by omega, fun _ => rfl⟩, hN0_0.ext⟩
                | exact ⟨_, rfl, ⟨fun h => absurd h (by decide), fun h => by omega⟩, hN0_0.ext⟩
          · skip
            simp only [List.cons.injEq, and_true] at h7_1
            refine xl_pure rfl rfl rfl (pv_assign (v := .bool _) rfl rfl) ?_
            refine xl_nil ?_
            refine xthen_normal ?_
            refine xc_cond_f rfl ?_
            refine xc_skip ?_
            refine xblock_normal ?_
            refine xthen_normal ?_
            refine xc_seq ?_
            refine xc_region ?_
            refine xl_pure rfl rfl rfl (pv_assign (v := .bool _) rfl rfl) ?_
            refine xl_nil ?_
            refine xthen_normal ?_
            refine xc_ret ?_
            refine fin_ret (res1 (v := .bool _) rfl rfl) ?_
            unfold Ends
            first
              | exact ⟨_, rfl, ⟨fun _ => by omega, fun _ => rfl⟩, hN0_0.ext⟩
              | exact ⟨_, rfl, ⟨fun h => absurd h (by decide), fun h => by omega⟩, hN0_0.ext⟩

theorem c33 {O : Outer} {H : Heap} (d : D) (a b : Option Addr) (c e : Nat) (s : Int) :
    FnC Try.prog 33 #[.agg (dcs d a b c e).toArray, .int .i64 s] O H (fun v H' => ∃ r, v = .bool r ∧ (r = true ↔ Ends d s) ∧ Ext H H') := by
  refine fn_enter (A := [.agg (dcs d a b c e).toArray, .int .i64 s]) Try.func33 rfl rfl ?_
  refine xc_seq ?_
  refine xc_region ?_
  refine xl_heavy rfl rfl rfl (hv_box rfl rfl) ?_
  rintro v0_0 H0_0 ⟨b0_0, rfl, hN0_0⟩
  refine xl_pure rfl rfl rfl (pv_assign (v := .bool _) rfl rfl) ?_
  refine xl_nil ?_
  refine xthen_normal ?_
  refine xc_seq ?_
  refine xc_seq ?_
  refine xc_region ?_
  refine xl_pure rfl rfl rfl (pv_fieldAddr rfl rfl) ?_
  refine xl_light rfl rfl rfl (lv_load (v := .int _ _) rfl rfl (by first | exact ld_blk hN0_0.blk rfl)) ?_
  refine xl_dec rfl rfl rfl (pv_eql rfl rfl rfl) (fun h1_2 => ?_) (fun h1_2 => ?_)
  · skip
    refine xl_nil ?_
    refine xthen_normal ?_
    refine xc_cond_t rfl ?_
    refine xc_seq ?_
    refine xc_region ?_
    refine xl_pure rfl rfl rfl (pv_move (v := .int _ _) rfl rfl) ?_
    refine xl_dec rfl rfl rfl (pv_eql rfl rfl rfl) (fun h2_1 => ?_) (fun h2_1 => ?_)
    · skip
      refine xl_pure rfl rfl rfl (pv_move (v := .bool _) rfl rfl) ?_
      refine xl_skip rfl rfl rfl ?_
      refine xl_skip rfl rfl rfl ?_
      refine xl_pure rfl rfl rfl (pv_pick_t (v := .bool _) rfl rfl rfl) ?_
      refine xl_pure rfl rfl rfl (pv_assign (v := .bool _) rfl rfl) ?_
      refine xl_nil ?_
      refine xthen_normal ?_
      refine xc_ret ?_
      refine xthen_ret ?_
      refine fin_ret (res1 (v := .bool _) rfl rfl) ?_
      unfold Ends
      first
        | exact ⟨_, rfl, ⟨fun _ => by omega, fun _ => rfl⟩, hN0_0.ext⟩
        | exact ⟨_, rfl, ⟨fun h => absurd h (by decide), fun h => by omega⟩, hN0_0.ext⟩
    · skip
      refine xl_pure rfl rfl rfl (pv_move (v := .bool _) rfl rfl) ?_
      refine xl_pure rfl rfl rfl (pv_move (v := .int _ _) rfl rfl) ?_
      refine xl_dec rfl rfl rfl (pv_eql rfl rfl rfl) (fun h2_4 => ?_) (fun h2_4 => ?_)
      · skip
        refine xl_pure rfl rfl rfl (pv_pick_f (v := .bool _) rfl rfl rfl) ?_
        refine xl_pure rfl rfl rfl (pv_assign (v := .bool _) rfl rfl) ?_
        refine xl_nil ?_
        refine xthen_normal ?_
        refine xc_ret ?_
        refine xthen_ret ?_
        refine fin_ret (res1 (v := .bool _) rfl rfl) ?_
        unfold Ends
        first
          | exact ⟨_, rfl, ⟨fun _ => by omega, fun _ => rfl⟩, hN0_0.ext⟩
          | exact ⟨_, rfl, ⟨fun h => absurd h (by decide), fun h => by omega⟩, hN0_0.ext⟩
      · skip
        refine xl_pure rfl rfl rfl (pv_pick_f (v := .bool _) rfl rfl rfl) ?_
        refine xl_pure rfl rfl rfl (pv_assign (v := .bool _) rfl rfl) ?_
        refine xl_nil ?_
        refine xthen_normal ?_
        refine xc_ret ?_
        refine xthen_ret ?_
        refine fin_ret (res1 (v := .bool _) rfl rfl) ?_
        unfold Ends
        first
          | exact ⟨_, rfl, ⟨fun _ => by omega, fun _ => rfl⟩, hN0_0.ext⟩
          | exact ⟨_, rfl, ⟨fun h => absurd h (by decide), fun h => by omega⟩, hN0_0.ext⟩
  · skip
    refine xl_nil ?_
    refine xthen_normal ?_
    refine xc_cond_f rfl ?_
    refine xc_skip ?_
    refine xthen_normal ?_
    refine xc_seq ?_
    refine xc_region ?_
    refine xl_pure rfl rfl rfl (pv_fieldAddr rfl rfl) ?_
    refine xl_light rfl rfl rfl (lv_load (v := .int _ _) rfl rfl (by first | exact ld_blk hN0_0.blk rfl)) ?_
    refine xl_dec rfl rfl rfl (pv_eql rfl rfl rfl) (fun h3_2 => ?_) (fun h3_2 => ?_)
    · skip
      refine xl_pure rfl rfl rfl (pv_move (v := .bool _) rfl rfl) ?_
      refine xl_pure rfl rfl rfl (pv_move (v := .int _ _) rfl rfl) ?_
      refine xl_dec rfl rfl rfl (pv_eql rfl rfl rfl) (fun h3_5 => ?_) (fun h3_5 => ?_)
      · skip
        refine xl_pure rfl rfl rfl (pv_move (v := .bool _) rfl rfl) ?_
        refine xl_pure rfl rfl rfl (pv_fieldAddr rfl rfl) ?_
        refine xl_light rfl rfl rfl (lv_load (v := .int _ _) rfl rfl (by first | exact ld_blk hN0_0.blk rfl)) ?_
        refine xl_ndec rfl rfl rfl (pv_neq rfl rfl rfl) (fun h3_9 => ?_) (fun h3_9 => ?_)
        · skip
          refine xl_pure rfl rfl rfl (pv_pick_t (v := .bool _) rfl rfl rfl) ?_
          refine xl_pure rfl rfl rfl (pv_move (v := .bool _) rfl rfl) ?_
          refine xl_pure rfl rfl rfl (pv_move (v := .int _ _) rfl rfl) ?_
          refine xl_dec rfl rfl rfl (pv_eql rfl rfl rfl) (fun h3_13 => ?_) (fun h3_13 => ?_)
          · skip
            refine xl_pure rfl rfl rfl (pv_pick_f (v := .bool _) rfl rfl rfl) ?_
            refine xl_pure rfl rfl rfl (pv_move (v := .bool _) rfl rfl) ?_
            refine xl_skip rfl rfl rfl ?_
            refine xl_skip rfl rfl rfl ?_
            refine xl_pure rfl rfl rfl (pv_pick_t (v := .bool _) rfl rfl rfl) ?_
            refine xl_pure rfl rfl rfl (pv_pick_t (v := .bool _) rfl rfl rfl) ?_
            refine xl_pure rfl rfl rfl (pv_assign (v := .bool _) rfl rfl) ?_
            refine xl_nil ?_
            refine xthen_normal ?_
            refine xc_ret ?_
            refine fin_ret (res1 (v := .bool _) rfl rfl) ?_
            unfold Ends
            first
              | exact ⟨_, rfl, ⟨fun _ => by omega, fun _ => rfl⟩, hN0_0.ext⟩
              | exact ⟨_, rfl, ⟨fun h => absurd h (by decide), fun h => by omega⟩, hN0_0.ext⟩
          · skip
            refine xl_pure rfl rfl rfl (pv_pick_f (v := .bool _) rfl rfl rfl) ?_
            refine xl_pure rfl rfl rfl (pv_move (v := .bool _) rfl rfl) ?_
            refine xl_pure rfl rfl rfl (pv_move (v := .int _ _) rfl rfl) ?_
            refine xl_dec rfl rfl rfl (pv_eql rfl rfl rfl) (fun h3_17 => ?_) (fun h3_17 => ?_)
            · skip
              refine xl_pure rfl rfl rfl (pv_pick_f (v := .bool _) rfl rfl rfl) ?_
              refine xl_pure rfl rfl rfl (pv_pick_t (v := .bool _) rfl rfl rfl) ?_
              refine xl_pure rfl rfl rfl (pv_assign (v := .bool _) rfl rfl) ?_
              refine xl_nil ?_
              refine xthen_normal ?_
              refine xc_ret ?_
              refine fin_ret (res1 (v := .bool _) rfl rfl) ?_
              unfold Ends
              first
                | exact ⟨_, rfl, ⟨fun _ => by omega, fun _ => rfl⟩, hN0_0.ext⟩
                | exact ⟨_, rfl, ⟨fun h => absurd h (by decide), fun h => by omega⟩, hN0_0.ext⟩
            · skip
              refine xl_pure rfl rfl rfl (pv_pick_f (v := .bool _) rfl rfl rfl) ?_
              refine xl_pure rfl rfl rfl (pv_pick_t (v := .bool _) rfl rfl rfl) ?_
              refine xl_pure rfl rfl rfl (pv_assign (v := .bool _) rfl rfl) ?_
              refine xl_nil ?_
              refine xthen_normal ?_
              refine xc_ret ?_
              refine fin_ret (res1 (v := .bool _) rfl rfl) ?_
              unfold Ends
              first
                | exact ⟨_, rfl, ⟨fun _ => by omega, fun _ => rfl⟩, hN0_0.ext⟩
                | exact ⟨_, rfl, ⟨fun h => absurd h (by decide), fun h => by omega⟩, hN0_0.ext⟩
        · skip
          refine xl_pure rfl rfl rfl (pv_pick_t (v := .bool _) rfl rfl rfl) ?_
          refine xl_pure rfl rfl rfl (pv_move (v := .bool _) rfl rfl) ?_
          refine xl_skip rfl rfl rfl ?_
          refine xl_skip rfl rfl rfl ?_
          refine xl_pure rfl rfl rfl (pv_pick_t (v := .bool _) rfl rfl rfl) ?_
          refine xl_pure rfl rfl rfl (pv_move (v := .bool _) rfl rfl) ?_
          refine xl_skip rfl rfl rfl ?_
          refine xl_skip rfl rfl rfl ?_
          refine xl_pure rfl rfl rfl (pv_pick_t (v := .bool _) rfl rfl rfl) ?_
          refine xl_pure rfl rfl rfl (pv_pick_t (v := .bool _) rfl rfl rfl) ?_
          refine xl_pure rfl rfl rfl (pv_assign (v := .bool _) rfl rfl) ?_
          refine xl_nil ?_
          refine xthen_normal ?_
          refine xc_ret ?_
          refine fin_ret (res1 (v := .bool _) rfl rfl) ?_
          unfold Ends
          first
            | exact ⟨_, rfl, ⟨fun _ => by omega, fun _ => rfl⟩, hN0_0.ext⟩
            | exact ⟨_, rfl, ⟨fun h => absurd h (by decide), fun h => by omega⟩, hN0_0.ext⟩
      · skip
        refine xl_pure rfl rfl rfl (pv_move (v := .bool _) rfl rfl) ?_
        refine xl_skip rfl rfl rfl ?_
        refine xl_skip rfl rfl rfl ?_
        refine xl_skip rfl rfl rfl ?_
        refine xl_pure rfl rfl rfl (pv_pick_f (v := .bool _) rfl rfl rfl) ?_
        refine xl_pure rfl rfl rfl (pv_move (v := .bool _) rfl rfl) ?_
        refine xl_pure rfl rfl rfl (pv_move (v := .int _ _) rfl rfl) ?_
        refine xl_dec rfl rfl rfl (pv_eql rfl rfl rfl) (fun h3_13 => ?_) (fun h3_13 => ?_)
        · skip
          refine xl_pure rfl rfl rfl (pv_pick_f (v := .bool _) rfl rfl rfl) ?_
          refine xl_pure rfl rfl rfl (pv_move (v := .bool _) rfl rfl) ?_
          refine xl_skip rfl rfl rfl ?_
          refine xl_skip rfl rfl rfl ?_
          refine xl_pure rfl rfl rfl (pv_pick_t (v := .bool _) rfl rfl rfl) ?_
          refine xl_pure rfl rfl rfl (pv_pick_t (v := .bool _) rfl rfl rfl) ?_
          refine xl_pure rfl rfl rfl (pv_assign (v := .bool _) rfl rfl) ?_
          refine xl_nil ?_
          refine xthen_normal ?_
          refine xc_ret ?_
          refine fin_ret (res1 (v := .bool _) rfl rfl) ?_
          unfold Ends
          first
            | exact ⟨_, rfl, ⟨fun _ => by omega, fun _ => rfl⟩, hN0_0.ext⟩
            | exact ⟨_, rfl, ⟨fun h => absurd h (by decide), fun h => by omega⟩, hN0_0.ext⟩
        · skip
          refine xl_pure rfl rfl rfl (pv_pick_f (v := .bool _) rfl rfl rfl) ?_
          refine xl_pure rfl rfl rfl (pv_move (v := .bool _) rfl rfl) ?_
          refine xl_pure rfl rfl rfl (pv_move (v := .int _ _) rfl rfl) ?_
          refine xl_dec rfl rfl rfl (pv_eql rfl rfl rfl) (fun h3_17 => ?_) (fun h3_17 => ?_)
          · skip
            refine xl_pure rfl rfl rfl (pv_pick_f (v := .bool _) rfl rfl rfl) ?_
            refine xl_pure rfl rfl rfl (pv_pick_t (v := .bool _) rfl rfl rfl) ?_
            refine xl_pure rfl rfl rfl (pv_assign (v := .bool _) rfl rfl) ?_
            refine xl_nil ?_
            refine xthen_normal ?_
            refine xc_ret ?_
            refine fin_ret (res1 (v := .bool _) rfl rfl) ?_
            unfold Ends
            first
              | exact ⟨_, rfl, ⟨fun _ => by omega, fun _ => rfl⟩, hN0_0.ext⟩
              | exact ⟨_, rfl, ⟨fun h => absurd h (by decide), fun h => by omega⟩, hN0_0.ext⟩
          · skip
            refine xl_pure rfl rfl rfl (pv_pick_f (v := .bool _) rfl rfl rfl) ?_
            refine xl_pure rfl rfl rfl (pv_pick_t (v := .bool _) rfl rfl rfl) ?_
            refine xl_pure rfl rfl rfl (pv_assign (v := .bool _) rfl rfl) ?_
            refine xl_nil ?_
            refine xthen_normal ?_
            refine xc_ret ?_
            refine fin_ret (res1 (v := .bool _) rfl rfl) ?_
            unfold Ends
            first
              | exact ⟨_, rfl, ⟨fun _ => by omega, fun _ => rfl⟩, hN0_0.ext⟩
              | exact ⟨_, rfl, ⟨fun h => absurd h (by decide), fun h => by omega⟩, hN0_0.ext⟩
    · skip
      refine xl_pure rfl rfl rfl (pv_move (v := .bool _) rfl rfl) ?_
      refine xl_skip rfl rfl rfl ?_
      refine xl_skip rfl rfl rfl ?_
      refine xl_skip rfl rfl rfl ?_
      refine xl_skip rfl rfl rfl ?_
      refine xl_skip rfl rfl rfl ?_
      refine xl_skip rfl rfl rfl ?_
      refine xl_skip rfl rfl rfl ?_
      refine xl_skip rfl rfl rfl ?_
      refine xl_skip rfl rfl rfl ?_
      refine xl_skip rfl rfl rfl ?_
      refine xl_skip rfl rfl rfl ?_
      refine xl_skip rfl rfl rfl ?_
      refine xl_skip rfl rfl rfl ?_
      refine xl_skip rfl rfl rfl ?_
      refine xl_skip rfl rfl rfl ?_
      refine xl_pure rfl rfl rfl (pv_pick_f (v := .bool _) rfl rfl rfl) ?_
      refine xl_pure rfl rfl rfl (pv_assign (v := .bool _) rfl rfl) ?_
      refine xl_nil ?_
      refine xthen_normal ?_
      refine xc_ret ?_
      refine fin_ret (res1 (v := .bool _) rfl rfl) ?_
      unfold Ends
      first
        | exact ⟨_, rfl, ⟨fun _ => by omega, fun _ => rfl⟩, hN0_0.ext⟩
        | exact ⟨_, rfl, ⟨fun h => absurd h (by decide), fun h => by omega⟩, hN0_0.ext⟩
end Go.XG
