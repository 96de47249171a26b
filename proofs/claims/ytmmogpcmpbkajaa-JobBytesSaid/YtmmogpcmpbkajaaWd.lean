/-
  Walks of the seat's functions over the logic XG: each function, what it computes. Printed by a program out of wip/walks.py.
-/
import Derived.Test.YtmmogpcmpbkajaaI
import Derived.Test.YtmmogpcmpbkajaaP
import Derived.Test.YtmmogpcmpbkajaaL
import Derived.Test.YtmmogpcmpbkajaaWa
import Derived.Test.YtmmogpcmpbkajaaWb
import Derived.Test.YtmmogpcmpbkajaaWc
namespace Go.XG
open Go.Proofs
set_option maxRecDepth 4000
set_option maxHeartbeats 4000000
theorem c11 {O : Outer} {H : Heap} (j : J) (a : Option Addr) (c : Nat) :
    FnC Try.prog 11 #[.agg (jcs j a c).toArray] O H (fun v H' => ∃ r, v = .bool r ∧ (r = true ↔ 1 ≤ j.st ∧ j.st ≤ 4) ∧ Ext H H') := by
  refine fn_enter (A := [.agg (jcs j a c).toArray]) Try.func11 rfl rfl ?_
  refine xc_seq ?_
  refine xc_region ?_
  refine xl_heavy rfl rfl rfl (hv_box rfl rfl) ?_
  rintro v0_0 H0_0 ⟨b0_0, rfl, hN0_0⟩
  refine xl_pure rfl rfl rfl (pv_assign (v := .bool _) rfl rfl) ?_
  refine xl_nil ?_
  refine xthen_normal ?_
  refine xc_seq ?_
  refine xc_region ?_
  refine xl_pure rfl rfl rfl (pv_fieldAddr rfl rfl) ?_
  refine xl_light rfl rfl rfl (lv_load (v := .int _ _) rfl rfl (by first | exact ld_blk hN0_0.blk rfl)) ?_
  refine xl_heavy rfl rfl rfl (hv_call (g := 28) rfl rfl (c28 _ _ _) rfl) ?_
  rintro v1_2 H1_2 ⟨r1_2, rfl, hb1_2, rfl⟩
  cases r1_2
  · skip
    replace hb1_2 := mt hb1_2.2 (by decide)
    refine xl_pure rfl rfl rfl (pv_assign (v := .bool _) rfl rfl) ?_
    refine xl_nil ?_
    refine xthen_normal ?_
    refine xc_ret ?_
    refine fin_ret (res1 (v := .bool _) rfl rfl) ?_
    first
      | exact ⟨_, rfl, ⟨fun _ => by omega, fun _ => rfl⟩, hN0_0.ext⟩
      | exact ⟨_, rfl, ⟨fun h => absurd h (by decide), fun h => by omega⟩, hN0_0.ext⟩
  · skip
    replace hb1_2 := hb1_2.1 rfl
    refine xl_pure rfl rfl rfl (pv_assign (v := .bool _) rfl rfl) ?_
    refine xl_nil ?_
    refine xthen_normal ?_
    refine xc_ret ?_
    refine fin_ret (res1 (v := .bool _) rfl rfl) ?_
    first
      | exact ⟨_, rfl, ⟨fun _ => by omega, fun _ => rfl⟩, hN0_0.ext⟩
      | exact ⟨_, rfl, ⟨fun h => absurd h (by decide), fun h => by omega⟩, hN0_0.ext⟩

theorem c14 {O : Outer} {H : Heap} (j : J) (a : Option Addr) (c : Nat) :
    FnC Try.prog 14 #[.agg (jcs j a c).toArray] O H (fun v H' => ∃ r, v = .bool r ∧ (r = true ↔ 1 ≤ j.st ∧ j.st ≤ 4) ∧ Ext H H') := by
  refine fn_enter (A := [.agg (jcs j a c).toArray]) Try.func14 rfl rfl ?_
  refine xc_seq ?_
  refine xc_region ?_
  refine xl_heavy rfl rfl rfl (hv_box rfl rfl) ?_
  rintro v0_0 H0_0 ⟨b0_0, rfl, hN0_0⟩
  refine xl_pure rfl rfl rfl (pv_assign (v := .bool _) rfl rfl) ?_
  refine xl_nil ?_
  refine xthen_normal ?_
  refine xc_seq ?_
  refine xc_region ?_
  refine xl_pure rfl rfl rfl (pv_fieldAddr rfl rfl) ?_
  refine xl_light rfl rfl rfl (lv_load (v := .int _ _) rfl rfl (by first | exact ld_blk hN0_0.blk rfl)) ?_
  refine xl_dec rfl rfl rfl (pv_eql rfl rfl rfl) (fun h1_2 => ?_) (fun h1_2 => ?_)
  · skip
    refine xl_pure rfl rfl rfl (pv_move (v := .bool _) rfl rfl) ?_
    refine xl_skip rfl rfl rfl ?_
    refine xl_skip rfl rfl rfl ?_
    refine xl_skip rfl rfl rfl ?_
    refine xl_pure rfl rfl rfl (pv_pick_t (v := .bool _) rfl rfl rfl) ?_
    refine xl_pure rfl rfl rfl (pv_move (v := .bool _) rfl rfl) ?_
    refine xl_skip rfl rfl rfl ?_
    refine xl_skip rfl rfl rfl ?_
    refine xl_skip rfl rfl rfl ?_
    refine xl_pure rfl rfl rfl (pv_pick_t (v := .bool _) rfl rfl rfl) ?_
    refine xl_pure rfl rfl rfl (pv_move (v := .bool _) rfl rfl) ?_
    refine xl_skip rfl rfl rfl ?_
    refine xl_skip rfl rfl rfl ?_
    refine xl_skip rfl rfl rfl ?_
    refine xl_pure rfl rfl rfl (pv_pick_t (v := .bool _) rfl rfl rfl) ?_
    refine xl_pure rfl rfl rfl (pv_assign (v := .bool _) rfl rfl) ?_
    refine xl_nil ?_
    refine xthen_normal ?_
    refine xc_ret ?_
    refine fin_ret (res1 (v := .bool _) rfl rfl) ?_
    first
      | exact ⟨_, rfl, ⟨fun _ => by omega, fun _ => rfl⟩, hN0_0.ext⟩
      | exact ⟨_, rfl, ⟨fun h => absurd h (by decide), fun h => by omega⟩, hN0_0.ext⟩
  · skip
    refine xl_pure rfl rfl rfl (pv_move (v := .bool _) rfl rfl) ?_
    refine xl_pure rfl rfl rfl (pv_fieldAddr rfl rfl) ?_
    refine xl_light rfl rfl rfl (lv_load (v := .int _ _) rfl rfl (by first | exact ld_blk hN0_0.blk rfl)) ?_
    refine xl_dec rfl rfl rfl (pv_eql rfl rfl rfl) (fun h1_6 => ?_) (fun h1_6 => ?_)
    · skip
      refine xl_pure rfl rfl rfl (pv_pick_f (v := .bool _) rfl rfl rfl) ?_
      refine xl_pure rfl rfl rfl (pv_move (v := .bool _) rfl rfl) ?_
      refine xl_skip rfl rfl rfl ?_
      refine xl_skip rfl rfl rfl ?_
      refine xl_skip rfl rfl rfl ?_
      refine xl_pure rfl rfl rfl (pv_pick_t (v := .bool _) rfl rfl rfl) ?_
      refine xl_pure rfl rfl rfl (pv_move (v := .bool _) rfl rfl) ?_
      refine xl_skip rfl rfl rfl ?_
      refine xl_skip rfl rfl rfl ?_
      refine xl_skip rfl rfl rfl ?_
      refine xl_pure rfl rfl rfl (pv_pick_t (v := .bool _) rfl rfl rfl) ?_
      refine xl_pure rfl rfl rfl (pv_assign (v := .bool _) rfl rfl) ?_
      refine xl_nil ?_
      refine xthen_normal ?_
      refine xc_ret ?_
      refine fin_ret (res1 (v := .bool _) rfl rfl) ?_
      first
        | exact ⟨_, rfl, ⟨fun _ => by omega, fun _ => rfl⟩, hN0_0.ext⟩
        | exact ⟨_, rfl, ⟨fun h => absurd h (by decide), fun h => by omega⟩, hN0_0.ext⟩
    · skip
      refine xl_pure rfl rfl rfl (pv_pick_f (v := .bool _) rfl rfl rfl) ?_
      refine xl_pure rfl rfl rfl (pv_move (v := .bool _) rfl rfl) ?_
      refine xl_pure rfl rfl rfl (pv_fieldAddr rfl rfl) ?_
      refine xl_light rfl rfl rfl (lv_load (v := .int _ _) rfl rfl (by first | exact ld_blk hN0_0.blk rfl)) ?_
      refine xl_dec rfl rfl rfl (pv_eql rfl rfl rfl) (fun h1_11 => ?_) (fun h1_11 => ?_)
      · skip
        refine xl_pure rfl rfl rfl (pv_pick_f (v := .bool _) rfl rfl rfl) ?_
        refine xl_pure rfl rfl rfl (pv_move (v := .bool _) rfl rfl) ?_
        refine xl_skip rfl rfl rfl ?_
        refine xl_skip rfl rfl rfl ?_
        refine xl_skip rfl rfl rfl ?_
        refine xl_pure rfl rfl rfl (pv_pick_t (v := .bool _) rfl rfl rfl) ?_
        refine xl_pure rfl rfl rfl (pv_assign (v := .bool _) rfl rfl) ?_
        refine xl_nil ?_
        refine xthen_normal ?_
        refine xc_ret ?_
        refine fin_ret (res1 (v := .bool _) rfl rfl) ?_
        first
          | exact ⟨_, rfl, ⟨fun _ => by omega, fun _ => rfl⟩, hN0_0.ext⟩
          | exact ⟨_, rfl, ⟨fun h => absurd h (by decide), fun h => by omega⟩, hN0_0.ext⟩
      · skip
        refine xl_pure rfl rfl rfl (pv_pick_f (v := .bool _) rfl rfl rfl) ?_
        refine xl_pure rfl rfl rfl (pv_move (v := .bool _) rfl rfl) ?_
        refine xl_pure rfl rfl rfl (pv_fieldAddr rfl rfl) ?_
        refine xl_light rfl rfl rfl (lv_load (v := .int _ _) rfl rfl (by first | exact ld_blk hN0_0.blk rfl)) ?_
        refine xl_dec rfl rfl rfl (pv_eql rfl rfl rfl) (fun h1_16 => ?_) (fun h1_16 => ?_)
        · skip
          refine xl_pure rfl rfl rfl (pv_pick_f (v := .bool _) rfl rfl rfl) ?_
          refine xl_pure rfl rfl rfl (pv_assign (v := .bool _) rfl rfl) ?_
          refine xl_nil ?_
          refine xthen_normal ?_
          refine xc_ret ?_
          refine fin_ret (res1 (v := .bool _) rfl rfl) ?_
          first
            | exact ⟨_, rfl, ⟨fun _ => by omega, fun _ => rfl⟩, hN0_0.ext⟩
            | exact ⟨_, rfl, ⟨fun h => absurd h (by decide), fun h => by omega⟩, hN0_0.ext⟩
        · skip
          refine xl_pure rfl rfl rfl (pv_pick_f (v := .bool _) rfl rfl rfl) ?_
          refine xl_pure rfl rfl rfl (pv_assign (v := .bool _) rfl rfl) ?_
          refine xl_nil ?_
          refine xthen_normal ?_
          refine xc_ret ?_
          refine fin_ret (res1 (v := .bool _) rfl rfl) ?_
          first
            | exact ⟨_, rfl, ⟨fun _ => by omega, fun _ => rfl⟩, hN0_0.ext⟩
            | exact ⟨_, rfl, ⟨fun h => absurd h (by decide), fun h => by omega⟩, hN0_0.ext⟩

theorem c15 {O : Outer} {H : Heap} (n : Int) :
    FnC Try.prog 15 #[.int .i64 n] O H (fun v H' => ∃ r, v = .int .i64 r ∧ (n = 1 ∧ r = 0 ∨ n ≠ 1 ∧ r = 1) ∧ H = H') := by
  refine fn_enter (A := [.int .i64 n]) Try.func15 rfl rfl ?_
  refine xc_seq ?_
  refine xc_region ?_
  refine xl_pure rfl rfl rfl (pv_assign (v := .int _ _) rfl rfl) ?_
  refine xl_nil ?_
  refine xthen_normal ?_
  refine xc_seq ?_
  refine xc_seq ?_
  refine xc_region ?_
  refine xl_pure rfl rfl rfl (pv_move (v := .int _ _) rfl rfl) ?_
  refine xl_dec rfl rfl rfl (pv_eql rfl rfl rfl) (fun h1_1 => ?_) (fun h1_1 => ?_)
  · skip
    refine xl_nil ?_
    refine xthen_normal ?_
    refine xc_cond_t rfl ?_
    refine xc_seq ?_
    refine xc_region ?_
    refine xl_pure rfl rfl rfl (pv_assign (v := .int _ _) rfl rfl) ?_
    refine xl_nil ?_
    refine xthen_normal ?_
    refine xc_ret ?_
    refine xthen_ret ?_
    refine fin_ret (res1 (v := .int _ _) rfl rfl) ?_
    first
      | exact ⟨_, rfl, .inl ⟨by omega, rfl⟩, rfl⟩
      | exact ⟨_, rfl, .inr ⟨by omega, rfl⟩, rfl⟩
  · skip
    refine xl_nil ?_
    refine xthen_normal ?_
    refine xc_cond_f rfl ?_
    refine xc_skip ?_
    refine xthen_normal ?_
    refine xc_seq ?_
    refine xc_region ?_
    refine xl_pure rfl rfl rfl (pv_assign (v := .int _ _) rfl rfl) ?_
    refine xl_nil ?_
    refine xthen_normal ?_
    refine xc_ret ?_
    refine fin_ret (res1 (v := .int _ _) rfl rfl) ?_
    first
      | exact ⟨_, rfl, .inl ⟨by omega, rfl⟩, rfl⟩
      | exact ⟨_, rfl, .inr ⟨by omega, rfl⟩, rfl⟩

theorem c16 {O : Outer} {H : Heap} (n : Int) :
    FnC Try.prog 16 #[.int .i64 n] O H (fun v H' => ∃ r, v = .int .i64 r ∧ (n = 1 ∧ r = 0 ∨ n ≠ 1 ∧ r = 1) ∧ H = H') := by
  refine fn_enter (A := [.int .i64 n]) Try.func16 rfl rfl ?_
  refine xc_seq ?_
  refine xc_region ?_
  refine xl_pure rfl rfl rfl (pv_assign (v := .int _ _) rfl rfl) ?_
  refine xl_nil ?_
  refine xthen_normal ?_
  refine xc_seq ?_
  refine xc_seq ?_
  refine xc_region ?_
  refine xl_pure rfl rfl rfl (pv_move (v := .int _ _) rfl rfl) ?_
  refine xl_dec rfl rfl rfl (pv_eql rfl rfl rfl) (fun h1_1 => ?_) (fun h1_1 => ?_)
  · skip
    refine xl_nil ?_
    refine xthen_normal ?_
    refine xc_cond_t rfl ?_
    refine xc_seq ?_
    refine xc_region ?_
    refine xl_pure rfl rfl rfl (pv_assign (v := .int _ _) rfl rfl) ?_
    refine xl_nil ?_
    refine xthen_normal ?_
    refine xc_ret ?_
    refine xthen_ret ?_
    refine fin_ret (res1 (v := .int _ _) rfl rfl) ?_
    first
      | exact ⟨_, rfl, .inl ⟨by omega, rfl⟩, rfl⟩
      | exact ⟨_, rfl, .inr ⟨by omega, rfl⟩, rfl⟩
  · skip
    refine xl_nil ?_
    refine xthen_normal ?_
    refine xc_cond_f rfl ?_
    refine xc_skip ?_
    refine xthen_normal ?_
    refine xc_seq ?_
    refine xc_region ?_
    refine xl_pure rfl rfl rfl (pv_assign (v := .int _ _) rfl rfl) ?_
    refine xl_nil ?_
    refine xthen_normal ?_
    refine xc_ret ?_
    refine fin_ret (res1 (v := .int _ _) rfl rfl) ?_
    first
      | exact ⟨_, rfl, .inl ⟨by omega, rfl⟩, rfl⟩
      | exact ⟨_, rfl, .inr ⟨by omega, rfl⟩, rfl⟩

def Plain : J := ⟨1, 1, 2, 0, 2, 1, 3, 4, 0, 10, 0, [], 1, 0, 0, 10⟩

theorem c7 {O : Outer} {H : Heap}  :
    FnC Try.prog 7 #[] O H (fun v H' => v = jv Plain none 0 ∧ Ext H H') := by
  refine fn_enter (A := []) Try.func7 rfl rfl ?_
  refine xc_seq ?_
  refine xc_region ?_
  refine xl_heavy rfl rfl rfl (hv_alloc rfl rfl) ?_
  rintro v0_0 H0_0 ⟨b0_0, rfl, hN0_0⟩
  refine xl_nil ?_
  refine xthen_normal ?_
  refine xc_seq ?_
  refine xc_region ?_
  refine xl_pure rfl rfl rfl (pv_build_s (cs := [.int _ _, .int _ _, .int _ _, .int _ _, .int _ _, .int _ _, .int _ _, .int _ _, .int _ _, .int _ _, .int _ _, .slice _ _ _, .int _ _, .int _ _, .int _ _, .int _ _]) rfl rfl rfl) ?_
  refine xl_store rfl rfl (hv_storeA (vs := [.int _ _, .int _ _, .int _ _, .int _ _, .int _ _, .int _ _, .int _ _, .int _ _, .int _ _, .int _ _, .int _ _, .slice _ _ _, .int _ _, .int _ _, .int _ _, .int _ _]) rfl rfl rfl (by first | exact hN0_0.blk) rfl (by rfl) rfl) ?_
  rintro v1_1 H1_1 ⟨hU1_1, hZ1_1⟩
  refine xl_nil ?_
  refine xthen_normal ?_
  refine xc_ret ?_
  refine fin_ret (resv1 rfl (rv_c (ty := 26) rfl (ld_blk_a hU1_1.blk rfl rfl))) ?_
  exact ⟨rfl, hN0_0.ext.ofBut hU1_1.but hN0_0.ge⟩

theorem c9 {O : Outer} {H : Heap} (j m : J) (a a' : Option Addr) (c c' : Nat) (hs : Stks H a j.needs) (hs' : Stks H a' m.needs) (hl : j.needs.length < 1099511627776) :
    FnC Try.prog 9 #[.agg (jcs j a c).toArray, .agg (jcs m a' c').toArray] O H (fun v H' => ∃ r, v = .bool r ∧ (r = true ↔ j = m) ∧ Ext H H') := by
  refine fn_enter (A := [.agg (jcs j a c).toArray, .agg (jcs m a' c').toArray]) Try.func9 rfl rfl ?_
  refine xc_seq ?_
  refine xc_region ?_
  refine xl_heavy rfl rfl rfl (hv_box rfl rfl) ?_
  rintro v0_0 H0_0 ⟨b0_0, rfl, hN0_0⟩
  refine xl_heavy rfl rfl rfl (hv_box rfl rfl) ?_
  rintro v0_1 H0_1 ⟨b0_1, rfl, hN0_1⟩
  refine xl_pure rfl rfl rfl (pv_assign (v := .bool _) rfl rfl) ?_
  refine xl_nil ?_
  refine xthen_normal ?_
  refine xc_seq ?_
  refine xc_region ?_
  refine xl_pure rfl rfl rfl (pv_fieldAddr rfl rfl) ?_
  refine xl_light rfl rfl rfl (lv_load (v := .int _ _) rfl rfl (by first | exact ld_blk (hN0_0.blk.ext hN0_1.ext) rfl | exact ld_blk hN0_1.blk rfl)) ?_
  refine xl_pure rfl rfl rfl (pv_fieldAddr rfl rfl) ?_
  refine xl_light rfl rfl rfl (lv_load (v := .int _ _) rfl rfl (by first | exact ld_blk (hN0_0.blk.ext hN0_1.ext) rfl | exact ld_blk hN0_1.blk rfl)) ?_
  refine xl_dec rfl rfl rfl (pv_eql rfl rfl rfl) (fun h1_4 => ?_) (fun h1_4 => ?_)
  · skip
    refine xl_pure rfl rfl rfl (pv_move (v := .bool _) rfl rfl) ?_
    refine xl_pure rfl rfl rfl (pv_fieldAddr rfl rfl) ?_
    refine xl_light rfl rfl rfl (lv_load (v := .int _ _) rfl rfl (by first | exact ld_blk (hN0_0.blk.ext hN0_1.ext) rfl | exact ld_blk hN0_1.blk rfl)) ?_
    refine xl_pure rfl rfl rfl (pv_fieldAddr rfl rfl) ?_
    refine xl_light rfl rfl rfl (lv_load (v := .int _ _) rfl rfl (by first | exact ld_blk (hN0_0.blk.ext hN0_1.ext) rfl | exact ld_blk hN0_1.blk rfl)) ?_
    refine xl_dec rfl rfl rfl (pv_eql rfl rfl rfl) (fun h1_10 => ?_) (fun h1_10 => ?_)
    · skip
      refine xl_pure rfl rfl rfl (pv_pick_t (v := .bool _) rfl rfl rfl) ?_
      refine xl_pure rfl rfl rfl (pv_move (v := .bool _) rfl rfl) ?_
      refine xl_pure rfl rfl rfl (pv_fieldAddr rfl rfl) ?_
      refine xl_light rfl rfl rfl (lv_load (v := .int _ _) rfl rfl (by first | exact ld_blk (hN0_0.blk.ext hN0_1.ext) rfl | exact ld_blk hN0_1.blk rfl)) ?_
      refine xl_pure rfl rfl rfl (pv_fieldAddr rfl rfl) ?_
      refine xl_light rfl rfl rfl (lv_load (v := .int _ _) rfl rfl (by first | exact ld_blk (hN0_0.blk.ext hN0_1.ext) rfl | exact ld_blk hN0_1.blk rfl)) ?_
      refine xl_dec rfl rfl rfl (pv_eql rfl rfl rfl) (fun h1_17 => ?_) (fun h1_17 => ?_)
      · skip
        refine xl_pure rfl rfl rfl (pv_pick_t (v := .bool _) rfl rfl rfl) ?_
        refine xl_pure rfl rfl rfl (pv_move (v := .bool _) rfl rfl) ?_
        refine xl_pure rfl rfl rfl (pv_fieldAddr rfl rfl) ?_
        refine xl_light rfl rfl rfl (lv_load (v := .int _ _) rfl rfl (by first | exact ld_blk (hN0_0.blk.ext hN0_1.ext) rfl | exact ld_blk hN0_1.blk rfl)) ?_
        refine xl_pure rfl rfl rfl (pv_fieldAddr rfl rfl) ?_
        refine xl_light rfl rfl rfl (lv_load (v := .int _ _) rfl rfl (by first | exact ld_blk (hN0_0.blk.ext hN0_1.ext) rfl | exact ld_blk hN0_1.blk rfl)) ?_
        refine xl_dec rfl rfl rfl (pv_eql rfl rfl rfl) (fun h1_24 => ?_) (fun h1_24 => ?_)
        · skip
          refine xl_pure rfl rfl rfl (pv_pick_t (v := .bool _) rfl rfl rfl) ?_
          refine xl_pure rfl rfl rfl (pv_move (v := .bool _) rfl rfl) ?_
          refine xl_pure rfl rfl rfl (pv_fieldAddr rfl rfl) ?_
          refine xl_light rfl rfl rfl (lv_load (v := .int _ _) rfl rfl (by first | exact ld_blk (hN0_0.blk.ext hN0_1.ext) rfl | exact ld_blk hN0_1.blk rfl)) ?_
          refine xl_pure rfl rfl rfl (pv_fieldAddr rfl rfl) ?_
          refine xl_light rfl rfl rfl (lv_load (v := .int _ _) rfl rfl (by first | exact ld_blk (hN0_0.blk.ext hN0_1.ext) rfl | exact ld_blk hN0_1.blk rfl)) ?_
          refine xl_dec rfl rfl rfl (pv_eql rfl rfl rfl) (fun h1_31 => ?_) (fun h1_31 => ?_)
          · skip
            refine xl_pure rfl rfl rfl (pv_pick_t (v := .bool _) rfl rfl rfl) ?_
            refine xl_pure rfl rfl rfl (pv_move (v := .bool _) rfl rfl) ?_
            refine xl_pure rfl rfl rfl (pv_fieldAddr rfl rfl) ?_
            refine xl_light rfl rfl rfl (lv_load (v := .int _ _) rfl rfl (by first | exact ld_blk (hN0_0.blk.ext hN0_1.ext) rfl | exact ld_blk hN0_1.blk rfl)) ?_
            refine xl_pure rfl rfl rfl (pv_fieldAddr rfl rfl) ?_
            refine xl_light rfl rfl rfl (lv_load (v := .int _ _) rfl rfl (by first | exact ld_blk (hN0_0.blk.ext hN0_1.ext) rfl | exact ld_blk hN0_1.blk rfl)) ?_
            refine xl_dec rfl rfl rfl (pv_eql rfl rfl rfl) (fun h1_38 => ?_) (fun h1_38 => ?_)
            · skip
              refine xl_pure rfl rfl rfl (pv_pick_t (v := .bool _) rfl rfl rfl) ?_
              refine xl_pure rfl rfl rfl (pv_move (v := .bool _) rfl rfl) ?_
              refine xl_pure rfl rfl rfl (pv_fieldAddr rfl rfl) ?_
              refine xl_light rfl rfl rfl (lv_load (v := .int _ _) rfl rfl (by first | exact ld_blk (hN0_0.blk.ext hN0_1.ext) rfl | exact ld_blk hN0_1.blk rfl)) ?_
              refine xl_pure rfl rfl rfl (pv_fieldAddr rfl rfl) ?_
              refine xl_light rfl rfl rfl (lv_load (v := .int _ _) rfl rfl (by first | exact ld_blk (hN0_0.blk.ext hN0_1.ext) rfl | exact ld_blk hN0_1.blk rfl)) ?_
              refine xl_dec rfl rfl rfl (pv_eql rfl rfl rfl) (fun h1_45 => ?_) (fun h1_45 => ?_)
              · skip
                refine xl_pure rfl rfl rfl (pv_pick_t (v := .bool _) rfl rfl rfl) ?_
                refine xl_pure rfl rfl rfl (pv_move (v := .bool _) rfl rfl) ?_
                refine xl_pure rfl rfl rfl (pv_fieldAddr rfl rfl) ?_
                refine xl_light rfl rfl rfl (lv_load (v := .int _ _) rfl rfl (by first | exact ld_blk (hN0_0.blk.ext hN0_1.ext) rfl | exact ld_blk hN0_1.blk rfl)) ?_
                refine xl_pure rfl rfl rfl (pv_fieldAddr rfl rfl) ?_
                refine xl_light rfl rfl rfl (lv_load (v := .int _ _) rfl rfl (by first | exact ld_blk (hN0_0.blk.ext hN0_1.ext) rfl | exact ld_blk hN0_1.blk rfl)) ?_
                refine xl_dec rfl rfl rfl (pv_eql rfl rfl rfl) (fun h1_52 => ?_) (fun h1_52 => ?_)
                · skip
                  refine xl_pure rfl rfl rfl (pv_pick_t (v := .bool _) rfl rfl rfl) ?_
                  refine xl_pure rfl rfl rfl (pv_move (v := .bool _) rfl rfl) ?_
                  refine xl_pure rfl rfl rfl (pv_fieldAddr rfl rfl) ?_
                  refine xl_light rfl rfl rfl (lv_load (v := .int _ _) rfl rfl (by first | exact ld_blk (hN0_0.blk.ext hN0_1.ext) rfl | exact ld_blk hN0_1.blk rfl)) ?_
                  refine xl_pure rfl rfl rfl (pv_fieldAddr rfl rfl) ?_
                  refine xl_light rfl rfl rfl (lv_load (v := .int _ _) rfl rfl (by first | exact ld_blk (hN0_0.blk.ext hN0_1.ext) rfl | exact ld_blk hN0_1.blk rfl)) ?_
                  refine xl_dec rfl rfl rfl (pv_eql rfl rfl rfl) (fun h1_59 => ?_) (fun h1_59 => ?_)
                  · skip
                    refine xl_pure rfl rfl rfl (pv_pick_t (v := .bool _) rfl rfl rfl) ?_
                    refine xl_pure rfl rfl rfl (pv_move (v := .bool _) rfl rfl) ?_
                    refine xl_pure rfl rfl rfl (pv_fieldAddr rfl rfl) ?_
                    refine xl_light rfl rfl rfl (lv_load (v := .int _ _) rfl rfl (by first | exact ld_blk (hN0_0.blk.ext hN0_1.ext) rfl | exact ld_blk hN0_1.blk rfl)) ?_
                    refine xl_pure rfl rfl rfl (pv_fieldAddr rfl rfl) ?_
                    refine xl_light rfl rfl rfl (lv_load (v := .int _ _) rfl rfl (by first | exact ld_blk (hN0_0.blk.ext hN0_1.ext) rfl | exact ld_blk hN0_1.blk rfl)) ?_
                    refine xl_dec rfl rfl rfl (pv_eql rfl rfl rfl) (fun h1_66 => ?_) (fun h1_66 => ?_)
                    · skip
                      refine xl_pure rfl rfl rfl (pv_pick_t (v := .bool _) rfl rfl rfl) ?_
                      refine xl_pure rfl rfl rfl (pv_move (v := .bool _) rfl rfl) ?_
                      refine xl_pure rfl rfl rfl (pv_fieldAddr rfl rfl) ?_
                      refine xl_light rfl rfl rfl (lv_load (v := .int _ _) rfl rfl (by first | exact ld_blk (hN0_0.blk.ext hN0_1.ext) rfl | exact ld_blk hN0_1.blk rfl)) ?_
                      refine xl_pure rfl rfl rfl (pv_fieldAddr rfl rfl) ?_
                      refine xl_light rfl rfl rfl (lv_load (v := .int _ _) rfl rfl (by first | exact ld_blk (hN0_0.blk.ext hN0_1.ext) rfl | exact ld_blk hN0_1.blk rfl)) ?_
                      refine xl_dec rfl rfl rfl (pv_eql rfl rfl rfl) (fun h1_73 => ?_) (fun h1_73 => ?_)
                      · skip
                        refine xl_pure rfl rfl rfl (pv_pick_t (v := .bool _) rfl rfl rfl) ?_
                        refine xl_pure rfl rfl rfl (pv_move (v := .bool _) rfl rfl) ?_
                        refine xl_pure rfl rfl rfl (pv_fieldAddr rfl rfl) ?_
                        refine xl_light rfl rfl rfl (lv_load (v := .slice _ _ _) rfl rfl (by first | exact ld_blk (hN0_0.blk.ext hN0_1.ext) rfl | exact ld_blk hN0_1.blk rfl)) ?_
                        refine xl_pure rfl rfl rfl (pv_fieldAddr rfl rfl) ?_
                        refine xl_light rfl rfl rfl (lv_load (v := .slice _ _ _) rfl rfl (by first | exact ld_blk (hN0_0.blk.ext hN0_1.ext) rfl | exact ld_blk hN0_1.blk rfl)) ?_
                        refine xl_heavy rfl rfl rfl (hv_call (g := 27) rfl rfl (c27 _ _ _ _ _ _ (hs.ext (hN0_0.ext.trans hN0_1.ext)) (hs'.ext (hN0_0.ext.trans hN0_1.ext)) (by omega)) rfl) ?_
                        rintro v1_80 H1_80 ⟨r1_80, rfl, hb1_80, rfl⟩
                        cases r1_80
                        · skip
                          replace hb1_80 := mt hb1_80.2 (by decide)
                          refine xl_pure rfl rfl rfl (pv_pick_t (v := .bool _) rfl rfl rfl) ?_
                          refine xl_pure rfl rfl rfl (pv_move (v := .bool _) rfl rfl) ?_
                          refine xl_skip rfl rfl rfl ?_
                          refine xl_skip rfl rfl rfl ?_
                          refine xl_skip rfl rfl rfl ?_
                          refine xl_skip rfl rfl rfl ?_
                          refine xl_skip rfl rfl rfl ?_
                          refine xl_pure rfl rfl rfl (pv_pick_f (v := .bool _) rfl rfl rfl) ?_
                          refine xl_pure rfl rfl rfl (pv_move (v := .bool _) rfl rfl) ?_
                          refine xl_skip rfl rfl rfl ?_
                          refine xl_skip rfl rfl rfl ?_
                          refine xl_skip rfl rfl rfl ?_
                          refine xl_skip rfl rfl rfl ?_
                          refine xl_skip rfl rfl rfl ?_
                          refine xl_pure rfl rfl rfl (pv_pick_f (v := .bool _) rfl rfl rfl) ?_
                          refine xl_pure rfl rfl rfl (pv_move (v := .bool _) rfl rfl) ?_
                          refine xl_skip rfl rfl rfl ?_
                          refine xl_skip rfl rfl rfl ?_
                          refine xl_skip rfl rfl rfl ?_
                          refine xl_skip rfl rfl rfl ?_
                          refine xl_skip rfl rfl rfl ?_
                          refine xl_pure rfl rfl rfl (pv_pick_f (v := .bool _) rfl rfl rfl) ?_
                          refine xl_pure rfl rfl rfl (pv_move (v := .bool _) rfl rfl) ?_
                          refine xl_skip rfl rfl rfl ?_
                          refine xl_skip rfl rfl rfl ?_
                          refine xl_skip rfl rfl rfl ?_
                          refine xl_skip rfl rfl rfl ?_
                          refine xl_skip rfl rfl rfl ?_
                          refine xl_pure rfl rfl rfl (pv_pick_f (v := .bool _) rfl rfl rfl) ?_
                          refine xl_pure rfl rfl rfl (pv_assign (v := .bool _) rfl rfl) ?_
                          refine xl_nil ?_
                          refine xthen_normal ?_
                          refine xc_ret ?_
                          refine fin_ret (res1 (v := .bool _) rfl rfl) ?_
                          first
                            | exact ⟨true, rfl, ⟨fun _ => j_ext h1_4 h1_10 h1_17 h1_24 h1_31 h1_38 h1_45 h1_52 h1_59 h1_66 h1_73 hb1_80 h1_87 h1_94 h1_101 h1_108, fun _ => rfl⟩, hN0_0.ext.trans hN0_1.ext⟩
                            | exact ⟨false, rfl, ⟨fun h => absurd h (by decide), fun h => absurd (by rw [h]) h1_4⟩, hN0_0.ext.trans hN0_1.ext⟩
                            | exact ⟨false, rfl, ⟨fun h => absurd h (by decide), fun h => absurd (by rw [h]) h1_10⟩, hN0_0.ext.trans hN0_1.ext⟩
                            | exact ⟨false, rfl, ⟨fun h => absurd h (by decide), fun h => absurd (by rw [h]) h1_17⟩, hN0_0.ext.trans hN0_1.ext⟩
                            | exact ⟨false, rfl, ⟨fun h => absurd h (by decide), fun h => absurd (by rw [h]) h1_24⟩, hN0_0.ext.trans hN0_1.ext⟩
                            | exact ⟨false, rfl, ⟨fun h => absurd h (by decide), fun h => absurd (by rw [h]) h1_31⟩, hN0_0.ext.trans hN0_1.ext⟩
                            | exact ⟨false, rfl, ⟨fun h => absurd h (by decide), fun h => absurd (by rw [h]) h1_38⟩, hN0_0.ext.trans hN0_1.ext⟩
                            | exact ⟨false, rfl, ⟨fun h => absurd h (by decide), fun h => absurd (by rw [h]) h1_45⟩, hN0_0.ext.trans hN0_1.ext⟩
                            | exact ⟨false, rfl, ⟨fun h => absurd h (by decide), fun h => absurd (by rw [h]) h1_52⟩, hN0_0.ext.trans hN0_1.ext⟩
                            | exact ⟨false, rfl, ⟨fun h => absurd h (by decide), fun h => absurd (by rw [h]) h1_59⟩, hN0_0.ext.trans hN0_1.ext⟩
                            | exact ⟨false, rfl, ⟨fun h => absurd h (by decide), fun h => absurd (by rw [h]) h1_66⟩, hN0_0.ext.trans hN0_1.ext⟩
                            | exact ⟨false, rfl, ⟨fun h => absurd h (by decide), fun h => absurd (by rw [h]) h1_73⟩, hN0_0.ext.trans hN0_1.ext⟩
                            | exact ⟨false, rfl, ⟨fun h => absurd h (by decide), fun h => absurd (by rw [h]) hb1_80⟩, hN0_0.ext.trans hN0_1.ext⟩
                            | exact ⟨false, rfl, ⟨fun h => absurd h (by decide), fun h => absurd (by rw [h]) h1_87⟩, hN0_0.ext.trans hN0_1.ext⟩
                            | exact ⟨false, rfl, ⟨fun h => absurd h (by decide), fun h => absurd (by rw [h]) h1_94⟩, hN0_0.ext.trans hN0_1.ext⟩
                            | exact ⟨false, rfl, ⟨fun h => absurd h (by decide), fun h => absurd (by rw [h]) h1_101⟩, hN0_0.ext.trans hN0_1.ext⟩
                            | exact ⟨false, rfl, ⟨fun h => absurd h (by decide), fun h => absurd (by rw [h]) h1_108⟩, hN0_0.ext.trans hN0_1.ext⟩
                        · skip
                          replace hb1_80 := hb1_80.1 rfl
                          refine xl_pure rfl rfl rfl (pv_pick_t (v := .bool _) rfl rfl rfl) ?_
                          refine xl_pure rfl rfl rfl (pv_move (v := .bool _) rfl rfl) ?_
                          refine xl_pure rfl rfl rfl (pv_fieldAddr rfl rfl) ?_
                          refine xl_light rfl rfl rfl (lv_load (v := .int _ _) rfl rfl (by first | exact ld_blk (hN0_0.blk.ext hN0_1.ext) rfl | exact ld_blk hN0_1.blk rfl)) ?_
                          refine xl_pure rfl rfl rfl (pv_fieldAddr rfl rfl) ?_
                          refine xl_light rfl rfl rfl (lv_load (v := .int _ _) rfl rfl (by first | exact ld_blk (hN0_0.blk.ext hN0_1.ext) rfl | exact ld_blk hN0_1.blk rfl)) ?_
                          refine xl_dec rfl rfl rfl (pv_eql rfl rfl rfl) (fun h1_87 => ?_) (fun h1_87 => ?_)
                          · skip
                            refine xl_pure rfl rfl rfl (pv_pick_t (v := .bool _) rfl rfl rfl) ?_
                            refine xl_pure rfl rfl rfl (pv_move (v := .bool _) rfl rfl) ?_
                            refine xl_pure rfl rfl rfl (pv_fieldAddr rfl rfl) ?_
                            refine xl_light rfl rfl rfl (lv_load (v := .int _ _) rfl rfl (by first | exact ld_blk (hN0_0.blk.ext hN0_1.ext) rfl | exact ld_blk hN0_1.blk rfl)) ?_
                            refine xl_pure rfl rfl rfl (pv_fieldAddr rfl rfl) ?_
                            refine xl_light rfl rfl rfl (lv_load (v := .int _ _) rfl rfl (by first | exact ld_blk (hN0_0.blk.ext hN0_1.ext) rfl | exact ld_blk hN0_1.blk rfl)) ?_
                            refine xl_dec rfl rfl rfl (pv_eql rfl rfl rfl) (fun h1_94 => ?_) (fun h1_94 => ?_)
                            · skip
                              refine xl_pure rfl rfl rfl (pv_pick_t (v := .bool _) rfl rfl rfl) ?_
                              refine xl_pure rfl rfl rfl (pv_move (v := .bool _) rfl rfl) ?_
                              refine xl_pure rfl rfl rfl (pv_fieldAddr rfl rfl) ?_
                              refine xl_light rfl rfl rfl (lv_load (v := .int _ _) rfl rfl (by first | exact ld_blk (hN0_0.blk.ext hN0_1.ext) rfl | exact ld_blk hN0_1.blk rfl)) ?_
                              refine xl_pure rfl rfl rfl (pv_fieldAddr rfl rfl) ?_
                              refine xl_light rfl rfl rfl (lv_load (v := .int _ _) rfl rfl (by first | exact ld_blk (hN0_0.blk.ext hN0_1.ext) rfl | exact ld_blk hN0_1.blk rfl)) ?_
                              refine xl_dec rfl rfl rfl (pv_eql rfl rfl rfl) (fun h1_101 => ?_) (fun h1_101 => ?_)
                              · skip
                                refine xl_pure rfl rfl rfl (pv_pick_t (v := .bool _) rfl rfl rfl) ?_
                                refine xl_pure rfl rfl rfl (pv_move (v := .bool _) rfl rfl) ?_
                                refine xl_pure rfl rfl rfl (pv_fieldAddr rfl rfl) ?_
                                refine xl_light rfl rfl rfl (lv_load (v := .int _ _) rfl rfl (by first | exact ld_blk (hN0_0.blk.ext hN0_1.ext) rfl | exact ld_blk hN0_1.blk rfl)) ?_
                                refine xl_pure rfl rfl rfl (pv_fieldAddr rfl rfl) ?_
                                refine xl_light rfl rfl rfl (lv_load (v := .int _ _) rfl rfl (by first | exact ld_blk (hN0_0.blk.ext hN0_1.ext) rfl | exact ld_blk hN0_1.blk rfl)) ?_
                                refine xl_dec rfl rfl rfl (pv_eql rfl rfl rfl) (fun h1_108 => ?_) (fun h1_108 => ?_)
                                · skip
                                  refine xl_pure rfl rfl rfl (pv_pick_t (v := .bool _) rfl rfl rfl) ?_
                                  refine xl_pure rfl rfl rfl (pv_assign (v := .bool _) rfl rfl) ?_
                                  refine xl_nil ?_
                                  refine xthen_normal ?_
                                  refine xc_ret ?_
                                  refine fin_ret (res1 (v := .bool _) rfl rfl) ?_
                                  first
                                    | exact ⟨true, rfl, ⟨fun _ => j_ext h1_4 h1_10 h1_17 h1_24 h1_31 h1_38 h1_45 h1_52 h1_59 h1_66 h1_73 hb1_80 h1_87 h1_94 h1_101 h1_108, fun _ => rfl⟩, hN0_0.ext.trans hN0_1.ext⟩
                                    | exact ⟨false, rfl, ⟨fun h => absurd h (by decide), fun h => absurd (by rw [h]) h1_4⟩, hN0_0.ext.trans hN0_1.ext⟩
                                    | exact ⟨false, rfl, ⟨fun h => absurd h (by decide), fun h => absurd (by rw [h]) h1_10⟩, hN0_0.ext.trans hN0_1.ext⟩
                                    | exact ⟨false, rfl, ⟨fun h => absurd h (by decide), fun h => absurd (by rw [h]) h1_17⟩, hN0_0.ext.trans hN0_1.ext⟩
                                    | exact ⟨false, rfl, ⟨fun h => absurd h (by decide), fun h => absurd (by rw [h]) h1_24⟩, hN0_0.ext.trans hN0_1.ext⟩
                                    | exact ⟨false, rfl, ⟨fun h => absurd h (by decide), fun h => absurd (by rw [h]) h1_31⟩, hN0_0.ext.trans hN0_1.ext⟩
                                    | exact ⟨false, rfl, ⟨fun h => absurd h (by decide), fun h => absurd (by rw [h]) h1_38⟩, hN0_0.ext.trans hN0_1.ext⟩
                                    | exact ⟨false, rfl, ⟨fun h => absurd h (by decide), fun h => absurd (by rw [h]) h1_45⟩, hN0_0.ext.trans hN0_1.ext⟩
                                    | exact ⟨false, rfl, ⟨fun h => absurd h (by decide), fun h => absurd (by rw [h]) h1_52⟩, hN0_0.ext.trans hN0_1.ext⟩
                                    | exact ⟨false, rfl, ⟨fun h => absurd h (by decide), fun h => absurd (by rw [h]) h1_59⟩, hN0_0.ext.trans hN0_1.ext⟩
                                    | exact ⟨false, rfl, ⟨fun h => absurd h (by decide), fun h => absurd (by rw [h]) h1_66⟩, hN0_0.ext.trans hN0_1.ext⟩
                                    | exact ⟨false, rfl, ⟨fun h => absurd h (by decide), fun h => absurd (by rw [h]) h1_73⟩, hN0_0.ext.trans hN0_1.ext⟩
                                    | exact ⟨false, rfl, ⟨fun h => absurd h (by decide), fun h => absurd (by rw [h]) hb1_80⟩, hN0_0.ext.trans hN0_1.ext⟩
                                    | exact ⟨false, rfl, ⟨fun h => absurd h (by decide), fun h => absurd (by rw [h]) h1_87⟩, hN0_0.ext.trans hN0_1.ext⟩
                                    | exact ⟨false, rfl, ⟨fun h => absurd h (by decide), fun h => absurd (by rw [h]) h1_94⟩, hN0_0.ext.trans hN0_1.ext⟩
                                    | exact ⟨false, rfl, ⟨fun h => absurd h (by decide), fun h => absurd (by rw [h]) h1_101⟩, hN0_0.ext.trans hN0_1.ext⟩
                                    | exact ⟨false, rfl, ⟨fun h => absurd h (by decide), fun h => absurd (by rw [h]) h1_108⟩, hN0_0.ext.trans hN0_1.ext⟩
                                · skip
                                  refine xl_pure rfl rfl rfl (pv_pick_t (v := .bool _) rfl rfl rfl) ?_
                                  refine xl_pure rfl rfl rfl (pv_assign (v := .bool _) rfl rfl) ?_
                                  refine xl_nil ?_
                                  refine xthen_normal ?_
                                  refine xc_ret ?_
                                  refine fin_ret (res1 (v := .bool _) rfl rfl) ?_
                                  first
                                    | exact ⟨true, rfl, ⟨fun _ => j_ext h1_4 h1_10 h1_17 h1_24 h1_31 h1_38 h1_45 h1_52 h1_59 h1_66 h1_73 hb1_80 h1_87 h1_94 h1_101 h1_108, fun _ => rfl⟩, hN0_0.ext.trans hN0_1.ext⟩
                                    | exact ⟨false, rfl, ⟨fun h => absurd h (by decide), fun h => absurd (by rw [h]) h1_4⟩, hN0_0.ext.trans hN0_1.ext⟩
                                    | exact ⟨false, rfl, ⟨fun h => absurd h (by decide), fun h => absurd (by rw [h]) h1_10⟩, hN0_0.ext.trans hN0_1.ext⟩
                                    | exact ⟨false, rfl, ⟨fun h => absurd h (by decide), fun h => absurd (by rw [h]) h1_17⟩, hN0_0.ext.trans hN0_1.ext⟩
                                    | exact ⟨false, rfl, ⟨fun h => absurd h (by decide), fun h => absurd (by rw [h]) h1_24⟩, hN0_0.ext.trans hN0_1.ext⟩
                                    | exact ⟨false, rfl, ⟨fun h => absurd h (by decide), fun h => absurd (by rw [h]) h1_31⟩, hN0_0.ext.trans hN0_1.ext⟩
                                    | exact ⟨false, rfl, ⟨fun h => absurd h (by decide), fun h => absurd (by rw [h]) h1_38⟩, hN0_0.ext.trans hN0_1.ext⟩
                                    | exact ⟨false, rfl, ⟨fun h => absurd h (by decide), fun h => absurd (by rw [h]) h1_45⟩, hN0_0.ext.trans hN0_1.ext⟩
                                    | exact ⟨false, rfl, ⟨fun h => absurd h (by decide), fun h => absurd (by rw [h]) h1_52⟩, hN0_0.ext.trans hN0_1.ext⟩
                                    | exact ⟨false, rfl, ⟨fun h => absurd h (by decide), fun h => absurd (by rw [h]) h1_59⟩, hN0_0.ext.trans hN0_1.ext⟩
                                    | exact ⟨false, rfl, ⟨fun h => absurd h (by decide), fun h => absurd (by rw [h]) h1_66⟩, hN0_0.ext.trans hN0_1.ext⟩
                                    | exact ⟨false, rfl, ⟨fun h => absurd h (by decide), fun h => absurd (by rw [h]) h1_73⟩, hN0_0.ext.trans hN0_1.ext⟩
                                    | exact ⟨false, rfl, ⟨fun h => absurd h (by decide), fun h => absurd (by rw [h]) hb1_80⟩, hN0_0.ext.trans hN0_1.ext⟩
                                    | exact ⟨false, rfl, ⟨fun h => absurd h (by decide), fun h => absurd (by rw [h]) h1_87⟩, hN0_0.ext.trans hN0_1.ext⟩
                                    | exact ⟨false, rfl, ⟨fun h => absurd h (by decide), fun h => absurd (by rw [h]) h1_94⟩, hN0_0.ext.trans hN0_1.ext⟩
                                    | exact ⟨false, rfl, ⟨fun h => absurd h (by decide), fun h => absurd (by rw [h]) h1_101⟩, hN0_0.ext.trans hN0_1.ext⟩
                                    | exact ⟨false, rfl, ⟨fun h => absurd h (by decide), fun h => absurd (by rw [h]) h1_108⟩, hN0_0.ext.trans hN0_1.ext⟩
                              · skip
                                refine xl_pure rfl rfl rfl (pv_pick_t (v := .bool _) rfl rfl rfl) ?_
                                refine xl_pure rfl rfl rfl (pv_move (v := .bool _) rfl rfl) ?_
                                refine xl_skip rfl rfl rfl ?_
                                refine xl_skip rfl rfl rfl ?_
                                refine xl_skip rfl rfl rfl ?_
                                refine xl_skip rfl rfl rfl ?_
                                refine xl_skip rfl rfl rfl ?_
                                refine xl_pure rfl rfl rfl (pv_pick_f (v := .bool _) rfl rfl rfl) ?_
                                refine xl_pure rfl rfl rfl (pv_assign (v := .bool _) rfl rfl) ?_
                                refine xl_nil ?_
                                refine xthen_normal ?_
                                refine xc_ret ?_
                                refine fin_ret (res1 (v := .bool _) rfl rfl) ?_
                                first
                                  | exact ⟨true, rfl, ⟨fun _ => j_ext h1_4 h1_10 h1_17 h1_24 h1_31 h1_38 h1_45 h1_52 h1_59 h1_66 h1_73 hb1_80 h1_87 h1_94 h1_101 h1_108, fun _ => rfl⟩, hN0_0.ext.trans hN0_1.ext⟩
                                  | exact ⟨false, rfl, ⟨fun h => absurd h (by decide), fun h => absurd (by rw [h]) h1_4⟩, hN0_0.ext.trans hN0_1.ext⟩
                                  | exact ⟨false, rfl, ⟨fun h => absurd h (by decide), fun h => absurd (by rw [h]) h1_10⟩, hN0_0.ext.trans hN0_1.ext⟩
                                  | exact ⟨false, rfl, ⟨fun h => absurd h (by decide), fun h => absurd (by rw [h]) h1_17⟩, hN0_0.ext.trans hN0_1.ext⟩
                                  | exact ⟨false, rfl, ⟨fun h => absurd h (by decide), fun h => absurd (by rw [h]) h1_24⟩, hN0_0.ext.trans hN0_1.ext⟩
                                  | exact ⟨false, rfl, ⟨fun h => absurd h (by decide), fun h => absurd (by rw [h]) h1_31⟩, hN0_0.ext.trans hN0_1.ext⟩
                                  | exact ⟨false, rfl, ⟨fun h => absurd h (by decide), fun h => absurd (by rw [h]) h1_38⟩, hN0_0.ext.trans hN0_1.ext⟩
                                  | exact ⟨false, rfl, ⟨fun h => absurd h (by decide), fun h => absurd (by rw [h]) h1_45⟩, hN0_0.ext.trans hN0_1.ext⟩
                                  | exact ⟨false, rfl, ⟨fun h => absurd h (by decide), fun h => absurd (by rw [h]) h1_52⟩, hN0_0.ext.trans hN0_1.ext⟩
                                  | exact ⟨false, rfl, ⟨fun h => absurd h (by decide), fun h => absurd (by rw [h]) h1_59⟩, hN0_0.ext.trans hN0_1.ext⟩
                                  | exact ⟨false, rfl, ⟨fun h => absurd h (by decide), fun h => absurd (by rw [h]) h1_66⟩, hN0_0.ext.trans hN0_1.ext⟩
                                  | exact ⟨false, rfl, ⟨fun h => absurd h (by decide), fun h => absurd (by rw [h]) h1_73⟩, hN0_0.ext.trans hN0_1.ext⟩
                                  | exact ⟨false, rfl, ⟨fun h => absurd h (by decide), fun h => absurd (by rw [h]) hb1_80⟩, hN0_0.ext.trans hN0_1.ext⟩
                                  | exact ⟨false, rfl, ⟨fun h => absurd h (by decide), fun h => absurd (by rw [h]) h1_87⟩, hN0_0.ext.trans hN0_1.ext⟩
                                  | exact ⟨false, rfl, ⟨fun h => absurd h (by decide), fun h => absurd (by rw [h]) h1_94⟩, hN0_0.ext.trans hN0_1.ext⟩
                                  | exact ⟨false, rfl, ⟨fun h => absurd h (by decide), fun h => absurd (by rw [h]) h1_101⟩, hN0_0.ext.trans hN0_1.ext⟩
                                  | exact ⟨false, rfl, ⟨fun h => absurd h (by decide), fun h => absurd (by rw [h]) h1_108⟩, hN0_0.ext.trans hN0_1.ext⟩
                            · skip
                              refine xl_pure rfl rfl rfl (pv_pick_t (v := .bool _) rfl rfl rfl) ?_
                              refine xl_pure rfl rfl rfl (pv_move (v := .bool _) rfl rfl) ?_
                              refine xl_skip rfl rfl rfl ?_
                              refine xl_skip rfl rfl rfl ?_
                              refine xl_skip rfl rfl rfl ?_
                              refine xl_skip rfl rfl rfl ?_
                              refine xl_skip rfl rfl rfl ?_
                              refine xl_pure rfl rfl rfl (pv_pick_f (v := .bool _) rfl rfl rfl) ?_
                              refine xl_pure rfl rfl rfl (pv_move (v := .bool _) rfl rfl) ?_
                              refine xl_skip rfl rfl rfl ?_
                              refine xl_skip rfl rfl rfl ?_
                              refine xl_skip rfl rfl rfl ?_
                              refine xl_skip rfl rfl rfl ?_
                              refine xl_skip rfl rfl rfl ?_
                              refine xl_pure rfl rfl rfl (pv_pick_f (v := .bool _) rfl rfl rfl) ?_
                              refine xl_pure rfl rfl rfl (pv_assign (v := .bool _) rfl rfl) ?_
                              refine xl_nil ?_
                              refine xthen_normal ?_
                              refine xc_ret ?_
                              refine fin_ret (res1 (v := .bool _) rfl rfl) ?_
                              first
                                | exact ⟨true, rfl, ⟨fun _ => j_ext h1_4 h1_10 h1_17 h1_24 h1_31 h1_38 h1_45 h1_52 h1_59 h1_66 h1_73 hb1_80 h1_87 h1_94 h1_101 h1_108, fun _ => rfl⟩, hN0_0.ext.trans hN0_1.ext⟩
                                | exact ⟨false, rfl, ⟨fun h => absurd h (by decide), fun h => absurd (by rw [h]) h1_4⟩, hN0_0.ext.trans hN0_1.ext⟩
                                | exact ⟨false, rfl, ⟨fun h => absurd h (by decide), fun h => absurd (by rw [h]) h1_10⟩, hN0_0.ext.trans hN0_1.ext⟩
                                | exact ⟨false, rfl, ⟨fun h => absurd h (by decide), fun h => absurd (by rw [h]) h1_17⟩, hN0_0.ext.trans hN0_1.ext⟩
                                | exact ⟨false, rfl, ⟨fun h => absurd h (by decide), fun h => absurd (by rw [h]) h1_24⟩, hN0_0.ext.trans hN0_1.ext⟩
                                | exact ⟨false, rfl, ⟨fun h => absurd h (by decide), fun h => absurd (by rw [h]) h1_31⟩, hN0_0.ext.trans hN0_1.ext⟩
                                | exact ⟨false, rfl, ⟨fun h => absurd h (by decide), fun h => absurd (by rw [h]) h1_38⟩, hN0_0.ext.trans hN0_1.ext⟩
                                | exact ⟨false, rfl, ⟨fun h => absurd h (by decide), fun h => absurd (by rw [h]) h1_45⟩, hN0_0.ext.trans hN0_1.ext⟩
                                | exact ⟨false, rfl, ⟨fun h => absurd h (by decide), fun h => absurd (by rw [h]) h1_52⟩, hN0_0.ext.trans hN0_1.ext⟩
                                | exact ⟨false, rfl, ⟨fun h => absurd h (by decide), fun h => absurd (by rw [h]) h1_59⟩, hN0_0.ext.trans hN0_1.ext⟩
                                | exact ⟨false, rfl, ⟨fun h => absurd h (by decide), fun h => absurd (by rw [h]) h1_66⟩, hN0_0.ext.trans hN0_1.ext⟩
                                | exact ⟨false, rfl, ⟨fun h => absurd h (by decide), fun h => absurd (by rw [h]) h1_73⟩, hN0_0.ext.trans hN0_1.ext⟩
                                | exact ⟨false, rfl, ⟨fun h => absurd h (by decide), fun h => absurd (by rw [h]) hb1_80⟩, hN0_0.ext.trans hN0_1.ext⟩
                                | exact ⟨false, rfl, ⟨fun h => absurd h (by decide), fun h => absurd (by rw [h]) h1_87⟩, hN0_0.ext.trans hN0_1.ext⟩
                                | exact ⟨false, rfl, ⟨fun h => absurd h (by decide), fun h => absurd (by rw [h]) h1_94⟩, hN0_0.ext.trans hN0_1.ext⟩
                                | exact ⟨false, rfl, ⟨fun h => absurd h (by decide), fun h => absurd (by rw [h]) h1_101⟩, hN0_0.ext.trans hN0_1.ext⟩
                                | exact ⟨false, rfl, ⟨fun h => absurd h (by decide), fun h => absurd (by rw [h]) h1_108⟩, hN0_0.ext.trans hN0_1.ext⟩
                          · skip
                            refine xl_pure rfl rfl rfl (pv_pick_t (v := .bool _) rfl rfl rfl) ?_
                            refine xl_pure rfl rfl rfl (pv_move (v := .bool _) rfl rfl) ?_
                            refine xl_skip rfl rfl rfl ?_
                            refine xl_skip rfl rfl rfl ?_
                            refine xl_skip rfl rfl rfl ?_
                            refine xl_skip rfl rfl rfl ?_
                            refine xl_skip rfl rfl rfl ?_
                            refine xl_pure rfl rfl rfl (pv_pick_f (v := .bool _) rfl rfl rfl) ?_
                            refine xl_pure rfl rfl rfl (pv_move (v := .bool _) rfl rfl) ?_
                            refine xl_skip rfl rfl rfl ?_
                            refine xl_skip rfl rfl rfl ?_
                            refine xl_skip rfl rfl rfl ?_
                            refine xl_skip rfl rfl rfl ?_
                            refine xl_skip rfl rfl rfl ?_
                            refine xl_pure rfl rfl rfl (pv_pick_f (v := .bool _) rfl rfl rfl) ?_
                            refine xl_pure rfl rfl rfl (pv_move (v := .bool _) rfl rfl) ?_
                            refine xl_skip rfl rfl rfl ?_
                            refine xl_skip rfl rfl rfl ?_
                            refine xl_skip rfl rfl rfl ?_
                            refine xl_skip rfl rfl rfl ?_
                            refine xl_skip rfl rfl rfl ?_
                            refine xl_pure rfl rfl rfl (pv_pick_f (v := .bool _) rfl rfl rfl) ?_
                            refine xl_pure rfl rfl rfl (pv_assign (v := .bool _) rfl rfl) ?_
                            refine xl_nil ?_
                            refine xthen_normal ?_
                            refine xc_ret ?_
                            refine fin_ret (res1 (v := .bool _) rfl rfl) ?_
                            first
                              | exact ⟨true, rfl, ⟨fun _ => j_ext h1_4 h1_10 h1_17 h1_24 h1_31 h1_38 h1_45 h1_52 h1_59 h1_66 h1_73 hb1_80 h1_87 h1_94 h1_101 h1_108, fun _ => rfl⟩, hN0_0.ext.trans hN0_1.ext⟩
                              | exact ⟨false, rfl, ⟨fun h => absurd h (by decide), fun h => absurd (by rw [h]) h1_4⟩, hN0_0.ext.trans hN0_1.ext⟩
                              | exact ⟨false, rfl, ⟨fun h => absurd h (by decide), fun h => absurd (by rw [h]) h1_10⟩, hN0_0.ext.trans hN0_1.ext⟩
                              | exact ⟨false, rfl, ⟨fun h => absurd h (by decide), fun h => absurd (by rw [h]) h1_17⟩, hN0_0.ext.trans hN0_1.ext⟩
                              | exact ⟨false, rfl, ⟨fun h => absurd h (by decide), fun h => absurd (by rw [h]) h1_24⟩, hN0_0.ext.trans hN0_1.ext⟩
                              | exact ⟨false, rfl, ⟨fun h => absurd h (by decide), fun h => absurd (by rw [h]) h1_31⟩, hN0_0.ext.trans hN0_1.ext⟩
                              | exact ⟨false, rfl, ⟨fun h => absurd h (by decide), fun h => absurd (by rw [h]) h1_38⟩, hN0_0.ext.trans hN0_1.ext⟩
                              | exact ⟨false, rfl, ⟨fun h => absurd h (by decide), fun h => absurd (by rw [h]) h1_45⟩, hN0_0.ext.trans hN0_1.ext⟩
                              | exact ⟨false, rfl, ⟨fun h => absurd h (by decide), fun h => absurd (by rw [h]) h1_52⟩, hN0_0.ext.trans hN0_1.ext⟩
                              | exact ⟨false, rfl, ⟨fun h => absurd h (by decide), fun h => absurd (by rw [h]) h1_59⟩, hN0_0.ext.trans hN0_1.ext⟩
                              | exact ⟨false, rfl, ⟨fun h => absurd h (by decide), fun h => absurd (by rw [h]) h1_66⟩, hN0_0.ext.trans hN0_1.ext⟩
                              | exact ⟨false, rfl, ⟨fun h => absurd h (by decide), fun h => absurd (by rw [h]) h1_73⟩, hN0_0.ext.trans hN0_1.ext⟩
                              | exact ⟨false, rfl, ⟨fun h => absurd h (by decide), fun h => absurd (by rw [h]) hb1_80⟩, hN0_0.ext.trans hN0_1.ext⟩
                              | exact ⟨false, rfl, ⟨fun h => absurd h (by decide), fun h => absurd (by rw [h]) h1_87⟩, hN0_0.ext.trans hN0_1.ext⟩
                              | exact ⟨false, rfl, ⟨fun h => absurd h (by decide), fun h => absurd (by rw [h]) h1_94⟩, hN0_0.ext.trans hN0_1.ext⟩
                              | exact ⟨false, rfl, ⟨fun h => absurd h (by decide), fun h => absurd (by rw [h]) h1_101⟩, hN0_0.ext.trans hN0_1.ext⟩
                              | exact ⟨false, rfl, ⟨fun h => absurd h (by decide), fun h => absurd (by rw [h]) h1_108⟩, hN0_0.ext.trans hN0_1.ext⟩
                      · skip
                        refine xl_pure rfl rfl rfl (pv_pick_t (v := .bool _) rfl rfl rfl) ?_
                        refine xl_pure rfl rfl rfl (pv_move (v := .bool _) rfl rfl) ?_
                        refine xl_skip rfl rfl rfl ?_
                        refine xl_skip rfl rfl rfl ?_
                        refine xl_skip rfl rfl rfl ?_
                        refine xl_skip rfl rfl rfl ?_
                        refine xl_skip rfl rfl rfl ?_
                        refine xl_pure rfl rfl rfl (pv_pick_f (v := .bool _) rfl rfl rfl) ?_
                        refine xl_pure rfl rfl rfl (pv_move (v := .bool _) rfl rfl) ?_
                        refine xl_skip rfl rfl rfl ?_
                        refine xl_skip rfl rfl rfl ?_
                        refine xl_skip rfl rfl rfl ?_
                        refine xl_skip rfl rfl rfl ?_
                        refine xl_skip rfl rfl rfl ?_
                        refine xl_pure rfl rfl rfl (pv_pick_f (v := .bool _) rfl rfl rfl) ?_
                        refine xl_pure rfl rfl rfl (pv_move (v := .bool _) rfl rfl) ?_
                        refine xl_skip rfl rfl rfl ?_
                        refine xl_skip rfl rfl rfl ?_
                        refine xl_skip rfl rfl rfl ?_
                        refine xl_skip rfl rfl rfl ?_
                        refine xl_skip rfl rfl rfl ?_
                        refine xl_pure rfl rfl rfl (pv_pick_f (v := .bool _) rfl rfl rfl) ?_
                        refine xl_pure rfl rfl rfl (pv_move (v := .bool _) rfl rfl) ?_
                        refine xl_skip rfl rfl rfl ?_
                        refine xl_skip rfl rfl rfl ?_
                        refine xl_skip rfl rfl rfl ?_
                        refine xl_skip rfl rfl rfl ?_
                        refine xl_skip rfl rfl rfl ?_
                        refine xl_pure rfl rfl rfl (pv_pick_f (v := .bool _) rfl rfl rfl) ?_
                        refine xl_pure rfl rfl rfl (pv_move (v := .bool _) rfl rfl) ?_
                        refine xl_skip rfl rfl rfl ?_
                        refine xl_skip rfl rfl rfl ?_
                        refine xl_skip rfl rfl rfl ?_
                        refine xl_skip rfl rfl rfl ?_
                        refine xl_skip rfl rfl rfl ?_
                        refine xl_pure rfl rfl rfl (pv_pick_f (v := .bool _) rfl rfl rfl) ?_
                        refine xl_pure rfl rfl rfl (pv_assign (v := .bool _) rfl rfl) ?_
                        refine xl_nil ?_
                        refine xthen_normal ?_
                        refine xc_ret ?_
                        refine fin_ret (res1 (v := .bool _) rfl rfl) ?_
                        first
                          | exact ⟨true, rfl, ⟨fun _ => j_ext h1_4 h1_10 h1_17 h1_24 h1_31 h1_38 h1_45 h1_52 h1_59 h1_66 h1_73 hb1_80 h1_87 h1_94 h1_101 h1_108, fun _ => rfl⟩, hN0_0.ext.trans hN0_1.ext⟩
                          | exact ⟨false, rfl, ⟨fun h => absurd h (by decide), fun h => absurd (by rw [h]) h1_4⟩, hN0_0.ext.trans hN0_1.ext⟩
                          | exact ⟨false, rfl, ⟨fun h => absurd h (by decide), fun h => absurd (by rw [h]) h1_10⟩, hN0_0.ext.trans hN0_1.ext⟩
                          | exact ⟨false, rfl, ⟨fun h => absurd h (by decide), fun h => absurd (by rw [h]) h1_17⟩, hN0_0.ext.trans hN0_1.ext⟩
                          | exact ⟨false, rfl, ⟨fun h => absurd h (by decide), fun h => absurd (by rw [h]) h1_24⟩, hN0_0.ext.trans hN0_1.ext⟩
                          | exact ⟨false, rfl, ⟨fun h => absurd h (by decide), fun h => absurd (by rw [h]) h1_31⟩, hN0_0.ext.trans hN0_1.ext⟩
                          | exact ⟨false, rfl, ⟨fun h => absurd h (by decide), fun h => absurd (by rw [h]) h1_38⟩, hN0_0.ext.trans hN0_1.ext⟩
                          | exact ⟨false, rfl, ⟨fun h => absurd h (by decide), fun h => absurd (by rw [h]) h1_45⟩, hN0_0.ext.trans hN0_1.ext⟩
                          | exact ⟨false, rfl, ⟨fun h => absurd h (by decide), fun h => absurd (by rw [h]) h1_52⟩, hN0_0.ext.trans hN0_1.ext⟩
                          | exact ⟨false, rfl, ⟨fun h => absurd h (by decide), fun h => absurd (by rw [h]) h1_59⟩, hN0_0.ext.trans hN0_1.ext⟩
                          | exact ⟨false, rfl, ⟨fun h => absurd h (by decide), fun h => absurd (by rw [h]) h1_66⟩, hN0_0.ext.trans hN0_1.ext⟩
                          | exact ⟨false, rfl, ⟨fun h => absurd h (by decide), fun h => absurd (by rw [h]) h1_73⟩, hN0_0.ext.trans hN0_1.ext⟩
                          | exact ⟨false, rfl, ⟨fun h => absurd h (by decide), fun h => absurd (by rw [h]) hb1_80⟩, hN0_0.ext.trans hN0_1.ext⟩
                          | exact ⟨false, rfl, ⟨fun h => absurd h (by decide), fun h => absurd (by rw [h]) h1_87⟩, hN0_0.ext.trans hN0_1.ext⟩
                          | exact ⟨false, rfl, ⟨fun h => absurd h (by decide), fun h => absurd (by rw [h]) h1_94⟩, hN0_0.ext.trans hN0_1.ext⟩
                          | exact ⟨false, rfl, ⟨fun h => absurd h (by decide), fun h => absurd (by rw [h]) h1_101⟩, hN0_0.ext.trans hN0_1.ext⟩
                          | exact ⟨false, rfl, ⟨fun h => absurd h (by decide), fun h => absurd (by rw [h]) h1_108⟩, hN0_0.ext.trans hN0_1.ext⟩
                    · skip
                      refine xl_pure rfl rfl rfl (pv_pick_t (v := .bool _) rfl rfl rfl) ?_
                      refine xl_pure rfl rfl rfl (pv_move (v := .bool _) rfl rfl) ?_
                      refine xl_skip rfl rfl rfl ?_
                      refine xl_skip rfl rfl rfl ?_
                      refine xl_skip rfl rfl rfl ?_
                      refine xl_skip rfl rfl rfl ?_
                      refine xl_skip rfl rfl rfl ?_
                      refine xl_pure rfl rfl rfl (pv_pick_f (v := .bool _) rfl rfl rfl) ?_
                      refine xl_pure rfl rfl rfl (pv_move (v := .bool _) rfl rfl) ?_
                      refine xl_skip rfl rfl rfl ?_
                      refine xl_skip rfl rfl rfl ?_
                      refine xl_skip rfl rfl rfl ?_
                      refine xl_skip rfl rfl rfl ?_
                      refine xl_skip rfl rfl rfl ?_
                      refine xl_pure rfl rfl rfl (pv_pick_f (v := .bool _) rfl rfl rfl) ?_
                      refine xl_pure rfl rfl rfl (pv_move (v := .bool _) rfl rfl) ?_
                      refine xl_skip rfl rfl rfl ?_
                      refine xl_skip rfl rfl rfl ?_
                      refine xl_skip rfl rfl rfl ?_
                      refine xl_skip rfl rfl rfl ?_
                      refine xl_skip rfl rfl rfl ?_
                      refine xl_pure rfl rfl rfl (pv_pick_f (v := .bool _) rfl rfl rfl) ?_
                      refine xl_pure rfl rfl rfl (pv_move (v := .bool _) rfl rfl) ?_
                      refine xl_skip rfl rfl rfl ?_
                      refine xl_skip rfl rfl rfl ?_
                      refine xl_skip rfl rfl rfl ?_
                      refine xl_skip rfl rfl rfl ?_
                      refine xl_skip rfl rfl rfl ?_
                      refine xl_pure rfl rfl rfl (pv_pick_f (v := .bool _) rfl rfl rfl) ?_
                      refine xl_pure rfl rfl rfl (pv_move (v := .bool _) rfl rfl) ?_
                      refine xl_skip rfl rfl rfl ?_
                      refine xl_skip rfl rfl rfl ?_
                      refine xl_skip rfl rfl rfl ?_
                      refine xl_skip rfl rfl rfl ?_
                      refine xl_skip rfl rfl rfl ?_
                      refine xl_pure rfl rfl rfl (pv_pick_f (v := .bool _) rfl rfl rfl) ?_
                      refine xl_pure rfl rfl rfl (pv_move (v := .bool _) rfl rfl) ?_
                      refine xl_skip rfl rfl rfl ?_
                      refine xl_skip rfl rfl rfl ?_
                      refine xl_skip rfl rfl rfl ?_
                      refine xl_skip rfl rfl rfl ?_
                      refine xl_skip rfl rfl rfl ?_
                      refine xl_pure rfl rfl rfl (pv_pick_f (v := .bool _) rfl rfl rfl) ?_
                      refine xl_pure rfl rfl rfl (pv_assign (v := .bool _) rfl rfl) ?_
                      refine xl_nil ?_
                      refine xthen_normal ?_
                      refine xc_ret ?_
                      refine fin_ret (res1 (v := .bool _) rfl rfl) ?_
                      first
                        | exact ⟨true, rfl, ⟨fun _ => j_ext h1_4 h1_10 h1_17 h1_24 h1_31 h1_38 h1_45 h1_52 h1_59 h1_66 h1_73 hb1_80 h1_87 h1_94 h1_101 h1_108, fun _ => rfl⟩, hN0_0.ext.trans hN0_1.ext⟩
                        | exact ⟨false, rfl, ⟨fun h => absurd h (by decide), fun h => absurd (by rw [h]) h1_4⟩, hN0_0.ext.trans hN0_1.ext⟩
                        | exact ⟨false, rfl, ⟨fun h => absurd h (by decide), fun h => absurd (by rw [h]) h1_10⟩, hN0_0.ext.trans hN0_1.ext⟩
                        | exact ⟨false, rfl, ⟨fun h => absurd h (by decide), fun h => absurd (by rw [h]) h1_17⟩, hN0_0.ext.trans hN0_1.ext⟩
                        | exact ⟨false, rfl, ⟨fun h => absurd h (by decide), fun h => absurd (by rw [h]) h1_24⟩, hN0_0.ext.trans hN0_1.ext⟩
                        | exact ⟨false, rfl, ⟨fun h => absurd h (by decide), fun h => absurd (by rw [h]) h1_31⟩, hN0_0.ext.trans hN0_1.ext⟩
                        | exact ⟨false, rfl, ⟨fun h => absurd h (by decide), fun h => absurd (by rw [h]) h1_38⟩, hN0_0.ext.trans hN0_1.ext⟩
                        | exact ⟨false, rfl, ⟨fun h => absurd h (by decide), fun h => absurd (by rw [h]) h1_45⟩, hN0_0.ext.trans hN0_1.ext⟩
                        | exact ⟨false, rfl, ⟨fun h => absurd h (by decide), fun h => absurd (by rw [h]) h1_52⟩, hN0_0.ext.trans hN0_1.ext⟩
                        | exact ⟨false, rfl, ⟨fun h => absurd h (by decide), fun h => absurd (by rw [h]) h1_59⟩, hN0_0.ext.trans hN0_1.ext⟩
                        | exact ⟨false, rfl, ⟨fun h => absurd h (by decide), fun h => absurd (by rw [h]) h1_66⟩, hN0_0.ext.trans hN0_1.ext⟩
                        | exact ⟨false, rfl, ⟨fun h => absurd h (by decide), fun h => absurd (by rw [h]) h1_73⟩, hN0_0.ext.trans hN0_1.ext⟩
                        | exact ⟨false, rfl, ⟨fun h => absurd h (by decide), fun h => absurd (by rw [h]) hb1_80⟩, hN0_0.ext.trans hN0_1.ext⟩
                        | exact ⟨false, rfl, ⟨fun h => absurd h (by decide), fun h => absurd (by rw [h]) h1_87⟩, hN0_0.ext.trans hN0_1.ext⟩
                        | exact ⟨false, rfl, ⟨fun h => absurd h (by decide), fun h => absurd (by rw [h]) h1_94⟩, hN0_0.ext.trans hN0_1.ext⟩
                        | exact ⟨false, rfl, ⟨fun h => absurd h (by decide), fun h => absurd (by rw [h]) h1_101⟩, hN0_0.ext.trans hN0_1.ext⟩
                        | exact ⟨false, rfl, ⟨fun h => absurd h (by decide), fun h => absurd (by rw [h]) h1_108⟩, hN0_0.ext.trans hN0_1.ext⟩
                  · skip
                    refine xl_pure rfl rfl rfl (pv_pick_t (v := .bool _) rfl rfl rfl) ?_
                    refine xl_pure rfl rfl rfl (pv_move (v := .bool _) rfl rfl) ?_
                    refine xl_skip rfl rfl rfl ?_
                    refine xl_skip rfl rfl rfl ?_
                    refine xl_skip rfl rfl rfl ?_
                    refine xl_skip rfl rfl rfl ?_
                    refine xl_skip rfl rfl rfl ?_
                    refine xl_pure rfl rfl rfl (pv_pick_f (v := .bool _) rfl rfl rfl) ?_
                    refine xl_pure rfl rfl rfl (pv_move (v := .bool _) rfl rfl) ?_
                    refine xl_skip rfl rfl rfl ?_
                    refine xl_skip rfl rfl rfl ?_
                    refine xl_skip rfl rfl rfl ?_
                    refine xl_skip rfl rfl rfl ?_
                    refine xl_skip rfl rfl rfl ?_
                    refine xl_pure rfl rfl rfl (pv_pick_f (v := .bool _) rfl rfl rfl) ?_
                    refine xl_pure rfl rfl rfl (pv_move (v := .bool _) rfl rfl) ?_
                    refine xl_skip rfl rfl rfl ?_
                    refine xl_skip rfl rfl rfl ?_
                    refine xl_skip rfl rfl rfl ?_
                    refine xl_skip rfl rfl rfl ?_
                    refine xl_skip rfl rfl rfl ?_
                    refine xl_pure rfl rfl rfl (pv_pick_f (v := .bool _) rfl rfl rfl) ?_
                    refine xl_pure rfl rfl rfl (pv_move (v := .bool _) rfl rfl) ?_
                    refine xl_skip rfl rfl rfl ?_
                    refine xl_skip rfl rfl rfl ?_
                    refine xl_skip rfl rfl rfl ?_
                    refine xl_skip rfl rfl rfl ?_
                    refine xl_skip rfl rfl rfl ?_
                    refine xl_pure rfl rfl rfl (pv_pick_f (v := .bool _) rfl rfl rfl) ?_
                    refine xl_pure rfl rfl rfl (pv_move (v := .bool _) rfl rfl) ?_
                    refine xl_skip rfl rfl rfl ?_
                    refine xl_skip rfl rfl rfl ?_
                    refine xl_skip rfl rfl rfl ?_
                    refine xl_skip rfl rfl rfl ?_
                    refine xl_skip rfl rfl rfl ?_
                    refine xl_pure rfl rfl rfl (pv_pick_f (v := .bool _) rfl rfl rfl) ?_
                    refine xl_pure rfl rfl rfl (pv_move (v := .bool _) rfl rfl) ?_
                    refine xl_skip rfl rfl rfl ?_
                    refine xl_skip rfl rfl rfl ?_
                    refine xl_skip rfl rfl rfl ?_
                    refine xl_skip rfl rfl rfl ?_
                    refine xl_skip rfl rfl rfl ?_
                    refine xl_pure rfl rfl rfl (pv_pick_f (v := .bool _) rfl rfl rfl) ?_
                    refine xl_pure rfl rfl rfl (pv_move (v := .bool _) rfl rfl) ?_
                    refine xl_skip rfl rfl rfl ?_
                    refine xl_skip rfl rfl rfl ?_
                    refine xl_skip rfl rfl rfl ?_
                    refine xl_skip rfl rfl rfl ?_
                    refine xl_skip rfl rfl rfl ?_
                    refine xl_pure rfl rfl rfl (pv_pick_f (v := .bool _) rfl rfl rfl) ?_
                    refine xl_pure rfl rfl rfl (pv_assign (v := .bool _) rfl rfl) ?_
                    refine xl_nil ?_
                    refine xthen_normal ?_
                    refine xc_ret ?_
                    refine fin_ret (res1 (v := .bool _) rfl rfl) ?_
                    first
                      | exact ⟨true, rfl, ⟨fun _ => j_ext h1_4 h1_10 h1_17 h1_24 h1_31 h1_38 h1_45 h1_52 h1_59 h1_66 h1_73 hb1_80 h1_87 h1_94 h1_101 h1_108, fun _ => rfl⟩, hN0_0.ext.trans hN0_1.ext⟩
                      | exact ⟨false, rfl, ⟨fun h => absurd h (by decide), fun h => absurd (by rw [h]) h1_4⟩, hN0_0.ext.trans hN0_1.ext⟩
                      | exact ⟨false, rfl, ⟨fun h => absurd h (by decide), fun h => absurd (by rw [h]) h1_10⟩, hN0_0.ext.trans hN0_1.ext⟩
                      | exact ⟨false, rfl, ⟨fun h => absurd h (by decide), fun h => absurd (by rw [h]) h1_17⟩, hN0_0.ext.trans hN0_1.ext⟩
                      | exact ⟨false, rfl, ⟨fun h => absurd h (by decide), fun h => absurd (by rw [h]) h1_24⟩, hN0_0.ext.trans hN0_1.ext⟩
                      | exact ⟨false, rfl, ⟨fun h => absurd h (by decide), fun h => absurd (by rw [h]) h1_31⟩, hN0_0.ext.trans hN0_1.ext⟩
                      | exact ⟨false, rfl, ⟨fun h => absurd h (by decide), fun h => absurd (by rw [h]) h1_38⟩, hN0_0.ext.trans hN0_1.ext⟩
                      | exact ⟨false, rfl, ⟨fun h => absurd h (by decide), fun h => absurd (by rw [h]) h1_45⟩, hN0_0.ext.trans hN0_1.ext⟩
                      | exact ⟨false, rfl, ⟨fun h => absurd h (by decide), fun h => absurd (by rw [h]) h1_52⟩, hN0_0.ext.trans hN0_1.ext⟩
                      | exact ⟨false, rfl, ⟨fun h => absurd h (by decide), fun h => absurd (by rw [h]) h1_59⟩, hN0_0.ext.trans hN0_1.ext⟩
                      | exact ⟨false, rfl, ⟨fun h => absurd h (by decide), fun h => absurd (by rw [h]) h1_66⟩, hN0_0.ext.trans hN0_1.ext⟩
                      | exact ⟨false, rfl, ⟨fun h => absurd h (by decide), fun h => absurd (by rw [h]) h1_73⟩, hN0_0.ext.trans hN0_1.ext⟩
                      | exact ⟨false, rfl, ⟨fun h => absurd h (by decide), fun h => absurd (by rw [h]) hb1_80⟩, hN0_0.ext.trans hN0_1.ext⟩
                      | exact ⟨false, rfl, ⟨fun h => absurd h (by decide), fun h => absurd (by rw [h]) h1_87⟩, hN0_0.ext.trans hN0_1.ext⟩
                      | exact ⟨false, rfl, ⟨fun h => absurd h (by decide), fun h => absurd (by rw [h]) h1_94⟩, hN0_0.ext.trans hN0_1.ext⟩
                      | exact ⟨false, rfl, ⟨fun h => absurd h (by decide), fun h => absurd (by rw [h]) h1_101⟩, hN0_0.ext.trans hN0_1.ext⟩
                      | exact ⟨false, rfl, ⟨fun h => absurd h (by decide), fun h => absurd (by rw [h]) h1_108⟩, hN0_0.ext.trans hN0_1.ext⟩
                · skip
                  refine xl_pure rfl rfl rfl (pv_pick_t (v := .bool _) rfl rfl rfl) ?_
                  refine xl_pure rfl rfl rfl (pv_move (v := .bool _) rfl rfl) ?_
                  refine xl_skip rfl rfl rfl ?_
                  refine xl_skip rfl rfl rfl ?_
                  refine xl_skip rfl rfl rfl ?_
                  refine xl_skip rfl rfl rfl ?_
                  refine xl_skip rfl rfl rfl ?_
                  refine xl_pure rfl rfl rfl (pv_pick_f (v := .bool _) rfl rfl rfl) ?_
                  refine xl_pure rfl rfl rfl (pv_move (v := .bool _) rfl rfl) ?_
                  refine xl_skip rfl rfl rfl ?_
                  refine xl_skip rfl rfl rfl ?_
                  refine xl_skip rfl rfl rfl ?_
                  refine xl_skip rfl rfl rfl ?_
                  refine xl_skip rfl rfl rfl ?_
                  refine xl_pure rfl rfl rfl (pv_pick_f (v := .bool _) rfl rfl rfl) ?_
                  refine xl_pure rfl rfl rfl (pv_move (v := .bool _) rfl rfl) ?_
                  refine xl_skip rfl rfl rfl ?_
                  refine xl_skip rfl rfl rfl ?_
                  refine xl_skip rfl rfl rfl ?_
                  refine xl_skip rfl rfl rfl ?_
                  refine xl_skip rfl rfl rfl ?_
                  refine xl_pure rfl rfl rfl (pv_pick_f (v := .bool _) rfl rfl rfl) ?_
                  refine xl_pure rfl rfl rfl (pv_move (v := .bool _) rfl rfl) ?_
                  refine xl_skip rfl rfl rfl ?_
                  refine xl_skip rfl rfl rfl ?_
                  refine xl_skip rfl rfl rfl ?_
                  refine xl_skip rfl rfl rfl ?_
                  refine xl_skip rfl rfl rfl ?_
                  refine xl_pure rfl rfl rfl (pv_pick_f (v := .bool _) rfl rfl rfl) ?_
                  refine xl_pure rfl rfl rfl (pv_move (v := .bool _) rfl rfl) ?_
                  refine xl_skip rfl rfl rfl ?_
                  refine xl_skip rfl rfl rfl ?_
                  refine xl_skip rfl rfl rfl ?_
                  refine xl_skip rfl rfl rfl ?_
                  refine xl_skip rfl rfl rfl ?_
                  refine xl_pure rfl rfl rfl (pv_pick_f (v := .bool _) rfl rfl rfl) ?_
                  refine xl_pure rfl rfl rfl (pv_move (v := .bool _) rfl rfl) ?_
                  refine xl_skip rfl rfl rfl ?_
                  refine xl_skip rfl rfl rfl ?_
                  refine xl_skip rfl rfl rfl ?_
                  refine xl_skip rfl rfl rfl ?_
                  refine xl_skip rfl rfl rfl ?_
                  refine xl_pure rfl rfl rfl (pv_pick_f (v := .bool _) rfl rfl rfl) ?_
                  refine xl_pure rfl rfl rfl (pv_move (v := .bool _) rfl rfl) ?_
                  refine xl_skip rfl rfl rfl ?_
                  refine xl_skip rfl rfl rfl ?_
                  refine xl_skip rfl rfl rfl ?_
                  refine xl_skip rfl rfl rfl ?_
                  refine xl_skip rfl rfl rfl ?_
                  refine xl_pure rfl rfl rfl (pv_pick_f (v := .bool _) rfl rfl rfl) ?_
                  refine xl_pure rfl rfl rfl (pv_move (v := .bool _) rfl rfl) ?_
                  refine xl_skip rfl rfl rfl ?_
                  refine xl_skip rfl rfl rfl ?_
                  refine xl_skip rfl rfl rfl ?_
                  refine xl_skip rfl rfl rfl ?_
                  refine xl_skip rfl rfl rfl ?_
                  refine xl_pure rfl rfl rfl (pv_pick_f (v := .bool _) rfl rfl rfl) ?_
                  refine xl_pure rfl rfl rfl (pv_assign (v := .bool _) rfl rfl) ?_
                  refine xl_nil ?_
                  refine xthen_normal ?_
                  refine xc_ret ?_
                  refine fin_ret (res1 (v := .bool _) rfl rfl) ?_
                  first
                    | exact ⟨true, rfl, ⟨fun _ => j_ext h1_4 h1_10 h1_17 h1_24 h1_31 h1_38 h1_45 h1_52 h1_59 h1_66 h1_73 hb1_80 h1_87 h1_94 h1_101 h1_108, fun _ => rfl⟩, hN0_0.ext.trans hN0_1.ext⟩
                    | exact ⟨false, rfl, ⟨fun h => absurd h (by decide), fun h => absurd (by rw [h]) h1_4⟩, hN0_0.ext.trans hN0_1.ext⟩
                    | exact ⟨false, rfl, ⟨fun h => absurd h (by decide), fun h => absurd (by rw [h]) h1_10⟩, hN0_0.ext.trans hN0_1.ext⟩
                    | exact ⟨false, rfl, ⟨fun h => absurd h (by decide), fun h => absurd (by rw [h]) h1_17⟩, hN0_0.ext.trans hN0_1.ext⟩
                    | exact ⟨false, rfl, ⟨fun h => absurd h (by decide), fun h => absurd (by rw [h]) h1_24⟩, hN0_0.ext.trans hN0_1.ext⟩
                    | exact ⟨false, rfl, ⟨fun h => absurd h (by decide), fun h => absurd (by rw [h]) h1_31⟩, hN0_0.ext.trans hN0_1.ext⟩
                    | exact ⟨false, rfl, ⟨fun h => absurd h (by decide), fun h => absurd (by rw [h]) h1_38⟩, hN0_0.ext.trans hN0_1.ext⟩
                    | exact ⟨false, rfl, ⟨fun h => absurd h (by decide), fun h => absurd (by rw [h]) h1_45⟩, hN0_0.ext.trans hN0_1.ext⟩
                    | exact ⟨false, rfl, ⟨fun h => absurd h (by decide), fun h => absurd (by rw [h]) h1_52⟩, hN0_0.ext.trans hN0_1.ext⟩
                    | exact ⟨false, rfl, ⟨fun h => absurd h (by decide), fun h => absurd (by rw [h]) h1_59⟩, hN0_0.ext.trans hN0_1.ext⟩
                    | exact ⟨false, rfl, ⟨fun h => absurd h (by decide), fun h => absurd (by rw [h]) h1_66⟩, hN0_0.ext.trans hN0_1.ext⟩
                    | exact ⟨false, rfl, ⟨fun h => absurd h (by decide), fun h => absurd (by rw [h]) h1_73⟩, hN0_0.ext.trans hN0_1.ext⟩
                    | exact ⟨false, rfl, ⟨fun h => absurd h (by decide), fun h => absurd (by rw [h]) hb1_80⟩, hN0_0.ext.trans hN0_1.ext⟩
                    | exact ⟨false, rfl, ⟨fun h => absurd h (by decide), fun h => absurd (by rw [h]) h1_87⟩, hN0_0.ext.trans hN0_1.ext⟩
                    | exact ⟨false, rfl, ⟨fun h => absurd h (by decide), fun h => absurd (by rw [h]) h1_94⟩, hN0_0.ext.trans hN0_1.ext⟩
                    | exact ⟨false, rfl, ⟨fun h => absurd h (by decide), fun h => absurd (by rw [h]) h1_101⟩, hN0_0.ext.trans hN0_1.ext⟩
                    | exact ⟨false, rfl, ⟨fun h => absurd h (by decide), fun h => absurd (by rw [h]) h1_108⟩, hN0_0.ext.trans hN0_1.ext⟩
              · skip
                refine xl_pure rfl rfl rfl (pv_pick_t (v := .bool _) rfl rfl rfl) ?_
                refine xl_pure rfl rfl rfl (pv_move (v := .bool _) rfl rfl) ?_
                refine xl_skip rfl rfl rfl ?_
                refine xl_skip rfl rfl rfl ?_
                refine xl_skip rfl rfl rfl ?_
                refine xl_skip rfl rfl rfl ?_
                refine xl_skip rfl rfl rfl ?_
                refine xl_pure rfl rfl rfl (pv_pick_f (v := .bool _) rfl rfl rfl) ?_
                refine xl_pure rfl rfl rfl (pv_move (v := .bool _) rfl rfl) ?_
                refine xl_skip rfl rfl rfl ?_
                refine xl_skip rfl rfl rfl ?_
                refine xl_skip rfl rfl rfl ?_
                refine xl_skip rfl rfl rfl ?_
                refine xl_skip rfl rfl rfl ?_
                refine xl_pure rfl rfl rfl (pv_pick_f (v := .bool _) rfl rfl rfl) ?_
                refine xl_pure rfl rfl rfl (pv_move (v := .bool _) rfl rfl) ?_
                refine xl_skip rfl rfl rfl ?_
                refine xl_skip rfl rfl rfl ?_
                refine xl_skip rfl rfl rfl ?_
                refine xl_skip rfl rfl rfl ?_
                refine xl_skip rfl rfl rfl ?_
                refine xl_pure rfl rfl rfl (pv_pick_f (v := .bool _) rfl rfl rfl) ?_
                refine xl_pure rfl rfl rfl (pv_move (v := .bool _) rfl rfl) ?_
                refine xl_skip rfl rfl rfl ?_
                refine xl_skip rfl rfl rfl ?_
                refine xl_skip rfl rfl rfl ?_
                refine xl_skip rfl rfl rfl ?_
                refine xl_skip rfl rfl rfl ?_
                refine xl_pure rfl rfl rfl (pv_pick_f (v := .bool _) rfl rfl rfl) ?_
                refine xl_pure rfl rfl rfl (pv_move (v := .bool _) rfl rfl) ?_
                refine xl_skip rfl rfl rfl ?_
                refine xl_skip rfl rfl rfl ?_
                refine xl_skip rfl rfl rfl ?_
                refine xl_skip rfl rfl rfl ?_
                refine xl_skip rfl rfl rfl ?_
                refine xl_pure rfl rfl rfl (pv_pick_f (v := .bool _) rfl rfl rfl) ?_
                refine xl_pure rfl rfl rfl (pv_move (v := .bool _) rfl rfl) ?_
                refine xl_skip rfl rfl rfl ?_
                refine xl_skip rfl rfl rfl ?_
                refine xl_skip rfl rfl rfl ?_
                refine xl_skip rfl rfl rfl ?_
                refine xl_skip rfl rfl rfl ?_
                refine xl_pure rfl rfl rfl (pv_pick_f (v := .bool _) rfl rfl rfl) ?_
                refine xl_pure rfl rfl rfl (pv_move (v := .bool _) rfl rfl) ?_
                refine xl_skip rfl rfl rfl ?_
                refine xl_skip rfl rfl rfl ?_
                refine xl_skip rfl rfl rfl ?_
                refine xl_skip rfl rfl rfl ?_
                refine xl_skip rfl rfl rfl ?_
                refine xl_pure rfl rfl rfl (pv_pick_f (v := .bool _) rfl rfl rfl) ?_
                refine xl_pure rfl rfl rfl (pv_move (v := .bool _) rfl rfl) ?_
                refine xl_skip rfl rfl rfl ?_
                refine xl_skip rfl rfl rfl ?_
                refine xl_skip rfl rfl rfl ?_
                refine xl_skip rfl rfl rfl ?_
                refine xl_skip rfl rfl rfl ?_
                refine xl_pure rfl rfl rfl (pv_pick_f (v := .bool _) rfl rfl rfl) ?_
                refine xl_pure rfl rfl rfl (pv_move (v := .bool _) rfl rfl) ?_
                refine xl_skip rfl rfl rfl ?_
                refine xl_skip rfl rfl rfl ?_
                refine xl_skip rfl rfl rfl ?_
                refine xl_skip rfl rfl rfl ?_
                refine xl_skip rfl rfl rfl ?_
                refine xl_pure rfl rfl rfl (pv_pick_f (v := .bool _) rfl rfl rfl) ?_
                refine xl_pure rfl rfl rfl (pv_assign (v := .bool _) rfl rfl) ?_
                refine xl_nil ?_
                refine xthen_normal ?_
                refine xc_ret ?_
                refine fin_ret (res1 (v := .bool _) rfl rfl) ?_
                first
                  | exact ⟨true, rfl, ⟨fun _ => j_ext h1_4 h1_10 h1_17 h1_24 h1_31 h1_38 h1_45 h1_52 h1_59 h1_66 h1_73 hb1_80 h1_87 h1_94 h1_101 h1_108, fun _ => rfl⟩, hN0_0.ext.trans hN0_1.ext⟩
                  | exact ⟨false, rfl, ⟨fun h => absurd h (by decide), fun h => absurd (by rw [h]) h1_4⟩, hN0_0.ext.trans hN0_1.ext⟩
                  | exact ⟨false, rfl, ⟨fun h => absurd h (by decide), fun h => absurd (by rw [h]) h1_10⟩, hN0_0.ext.trans hN0_1.ext⟩
                  | exact ⟨false, rfl, ⟨fun h => absurd h (by decide), fun h => absurd (by rw [h]) h1_17⟩, hN0_0.ext.trans hN0_1.ext⟩
                  | exact ⟨false, rfl, ⟨fun h => absurd h (by decide), fun h => absurd (by rw [h]) h1_24⟩, hN0_0.ext.trans hN0_1.ext⟩
                  | exact ⟨false, rfl, ⟨fun h => absurd h (by decide), fun h => absurd (by rw [h]) h1_31⟩, hN0_0.ext.trans hN0_1.ext⟩
                  | exact ⟨false, rfl, ⟨fun h => absurd h (by decide), fun h => absurd (by rw [h]) h1_38⟩, hN0_0.ext.trans hN0_1.ext⟩
                  | exact ⟨false, rfl, ⟨fun h => absurd h (by decide), fun h => absurd (by rw [h]) h1_45⟩, hN0_0.ext.trans hN0_1.ext⟩
                  | exact ⟨false, rfl, ⟨fun h => absurd h (by decide), fun h => absurd (by rw [h]) h1_52⟩, hN0_0.ext.trans hN0_1.ext⟩
                  | exact ⟨false, rfl, ⟨fun h => absurd h (by decide), fun h => absurd (by rw [h]) h1_59⟩, hN0_0.ext.trans hN0_1.ext⟩
                  | exact ⟨false, rfl, ⟨fun h => absurd h (by decide), fun h => absurd (by rw [h]) h1_66⟩, hN0_0.ext.trans hN0_1.ext⟩
                  | exact ⟨false, rfl, ⟨fun h => absurd h (by decide), fun h => absurd (by rw [h]) h1_73⟩, hN0_0.ext.trans hN0_1.ext⟩
                  | exact ⟨false, rfl, ⟨fun h => absurd h (by decide), fun h => absurd (by rw [h]) hb1_80⟩, hN0_0.ext.trans hN0_1.ext⟩
                  | exact ⟨false, rfl, ⟨fun h => absurd h (by decide), fun h => absurd (by rw [h]) h1_87⟩, hN0_0.ext.trans hN0_1.ext⟩
                  | exact ⟨false, rfl, ⟨fun h => absurd h (by decide), fun h => absurd (by rw [h]) h1_94⟩, hN0_0.ext.trans hN0_1.ext⟩
                  | exact ⟨false, rfl, ⟨fun h => absurd h (by decide), fun h => absurd (by rw [h]) h1_101⟩, hN0_0.ext.trans hN0_1.ext⟩
                  | exact ⟨false, rfl, ⟨fun h => absurd h (by decide), fun h => absurd (by rw [h]) h1_108⟩, hN0_0.ext.trans hN0_1.ext⟩
            · skip
              refine xl_pure rfl rfl rfl (pv_pick_t (v := .bool _) rfl rfl rfl) ?_
              refine xl_pure rfl rfl rfl (pv_move (v := .bool _) rfl rfl) ?_
              refine xl_skip rfl rfl rfl ?_
              refine xl_skip rfl rfl rfl ?_
              refine xl_skip rfl rfl rfl ?_
              refine xl_skip rfl rfl rfl ?_
              refine xl_skip rfl rfl rfl ?_
              refine xl_pure rfl rfl rfl (pv_pick_f (v := .bool _) rfl rfl rfl) ?_
              refine xl_pure rfl rfl rfl (pv_move (v := .bool _) rfl rfl) ?_
              refine xl_skip rfl rfl rfl ?_
              refine xl_skip rfl rfl rfl ?_
              refine xl_skip rfl rfl rfl ?_
              refine xl_skip rfl rfl rfl ?_
              refine xl_skip rfl rfl rfl ?_
              refine xl_pure rfl rfl rfl (pv_pick_f (v := .bool _) rfl rfl rfl) ?_
              refine xl_pure rfl rfl rfl (pv_move (v := .bool _) rfl rfl) ?_
              refine xl_skip rfl rfl rfl ?_
              refine xl_skip rfl rfl rfl ?_
              refine xl_skip rfl rfl rfl ?_
              refine xl_skip rfl rfl rfl ?_
              refine xl_skip rfl rfl rfl ?_
              refine xl_pure rfl rfl rfl (pv_pick_f (v := .bool _) rfl rfl rfl) ?_
              refine xl_pure rfl rfl rfl (pv_move (v := .bool _) rfl rfl) ?_
              refine xl_skip rfl rfl rfl ?_
              refine xl_skip rfl rfl rfl ?_
              refine xl_skip rfl rfl rfl ?_
              refine xl_skip rfl rfl rfl ?_
              refine xl_skip rfl rfl rfl ?_
              refine xl_pure rfl rfl rfl (pv_pick_f (v := .bool _) rfl rfl rfl) ?_
              refine xl_pure rfl rfl rfl (pv_move (v := .bool _) rfl rfl) ?_
              refine xl_skip rfl rfl rfl ?_
              refine xl_skip rfl rfl rfl ?_
              refine xl_skip rfl rfl rfl ?_
              refine xl_skip rfl rfl rfl ?_
              refine xl_skip rfl rfl rfl ?_
              refine xl_pure rfl rfl rfl (pv_pick_f (v := .bool _) rfl rfl rfl) ?_
              refine xl_pure rfl rfl rfl (pv_move (v := .bool _) rfl rfl) ?_
              refine xl_skip rfl rfl rfl ?_
              refine xl_skip rfl rfl rfl ?_
              refine xl_skip rfl rfl rfl ?_
              refine xl_skip rfl rfl rfl ?_
              refine xl_skip rfl rfl rfl ?_
              refine xl_pure rfl rfl rfl (pv_pick_f (v := .bool _) rfl rfl rfl) ?_
              refine xl_pure rfl rfl rfl (pv_move (v := .bool _) rfl rfl) ?_
              refine xl_skip rfl rfl rfl ?_
              refine xl_skip rfl rfl rfl ?_
              refine xl_skip rfl rfl rfl ?_
              refine xl_skip rfl rfl rfl ?_
              refine xl_skip rfl rfl rfl ?_
              refine xl_pure rfl rfl rfl (pv_pick_f (v := .bool _) rfl rfl rfl) ?_
              refine xl_pure rfl rfl rfl (pv_move (v := .bool _) rfl rfl) ?_
              refine xl_skip rfl rfl rfl ?_
              refine xl_skip rfl rfl rfl ?_
              refine xl_skip rfl rfl rfl ?_
              refine xl_skip rfl rfl rfl ?_
              refine xl_skip rfl rfl rfl ?_
              refine xl_pure rfl rfl rfl (pv_pick_f (v := .bool _) rfl rfl rfl) ?_
              refine xl_pure rfl rfl rfl (pv_move (v := .bool _) rfl rfl) ?_
              refine xl_skip rfl rfl rfl ?_
              refine xl_skip rfl rfl rfl ?_
              refine xl_skip rfl rfl rfl ?_
              refine xl_skip rfl rfl rfl ?_
              refine xl_skip rfl rfl rfl ?_
              refine xl_pure rfl rfl rfl (pv_pick_f (v := .bool _) rfl rfl rfl) ?_
              refine xl_pure rfl rfl rfl (pv_move (v := .bool _) rfl rfl) ?_
              refine xl_skip rfl rfl rfl ?_
              refine xl_skip rfl rfl rfl ?_
              refine xl_skip rfl rfl rfl ?_
              refine xl_skip rfl rfl rfl ?_
              refine xl_skip rfl rfl rfl ?_
              refine xl_pure rfl rfl rfl (pv_pick_f (v := .bool _) rfl rfl rfl) ?_
              refine xl_pure rfl rfl rfl (pv_assign (v := .bool _) rfl rfl) ?_
              refine xl_nil ?_
              refine xthen_normal ?_
              refine xc_ret ?_
              refine fin_ret (res1 (v := .bool _) rfl rfl) ?_
              first
                | exact ⟨true, rfl, ⟨fun _ => j_ext h1_4 h1_10 h1_17 h1_24 h1_31 h1_38 h1_45 h1_52 h1_59 h1_66 h1_73 hb1_80 h1_87 h1_94 h1_101 h1_108, fun _ => rfl⟩, hN0_0.ext.trans hN0_1.ext⟩
                | exact ⟨false, rfl, ⟨fun h => absurd h (by decide), fun h => absurd (by rw [h]) h1_4⟩, hN0_0.ext.trans hN0_1.ext⟩
                | exact ⟨false, rfl, ⟨fun h => absurd h (by decide), fun h => absurd (by rw [h]) h1_10⟩, hN0_0.ext.trans hN0_1.ext⟩
                | exact ⟨false, rfl, ⟨fun h => absurd h (by decide), fun h => absurd (by rw [h]) h1_17⟩, hN0_0.ext.trans hN0_1.ext⟩
                | exact ⟨false, rfl, ⟨fun h => absurd h (by decide), fun h => absurd (by rw [h]) h1_24⟩, hN0_0.ext.trans hN0_1.ext⟩
                | exact ⟨false, rfl, ⟨fun h => absurd h (by decide), fun h => absurd (by rw [h]) h1_31⟩, hN0_0.ext.trans hN0_1.ext⟩
                | exact ⟨false, rfl, ⟨fun h => absurd h (by decide), fun h => absurd (by rw [h]) h1_38⟩, hN0_0.ext.trans hN0_1.ext⟩
                | exact ⟨false, rfl, ⟨fun h => absurd h (by decide), fun h => absurd (by rw [h]) h1_45⟩, hN0_0.ext.trans hN0_1.ext⟩
                | exact ⟨false, rfl, ⟨fun h => absurd h (by decide), fun h => absurd (by rw [h]) h1_52⟩, hN0_0.ext.trans hN0_1.ext⟩
                | exact ⟨false, rfl, ⟨fun h => absurd h (by decide), fun h => absurd (by rw [h]) h1_59⟩, hN0_0.ext.trans hN0_1.ext⟩
                | exact ⟨false, rfl, ⟨fun h => absurd h (by decide), fun h => absurd (by rw [h]) h1_66⟩, hN0_0.ext.trans hN0_1.ext⟩
                | exact ⟨false, rfl, ⟨fun h => absurd h (by decide), fun h => absurd (by rw [h]) h1_73⟩, hN0_0.ext.trans hN0_1.ext⟩
                | exact ⟨false, rfl, ⟨fun h => absurd h (by decide), fun h => absurd (by rw [h]) hb1_80⟩, hN0_0.ext.trans hN0_1.ext⟩
                | exact ⟨false, rfl, ⟨fun h => absurd h (by decide), fun h => absurd (by rw [h]) h1_87⟩, hN0_0.ext.trans hN0_1.ext⟩
                | exact ⟨false, rfl, ⟨fun h => absurd h (by decide), fun h => absurd (by rw [h]) h1_94⟩, hN0_0.ext.trans hN0_1.ext⟩
                | exact ⟨false, rfl, ⟨fun h => absurd h (by decide), fun h => absurd (by rw [h]) h1_101⟩, hN0_0.ext.trans hN0_1.ext⟩
                | exact ⟨false, rfl, ⟨fun h => absurd h (by decide), fun h => absurd (by rw [h]) h1_108⟩, hN0_0.ext.trans hN0_1.ext⟩
          · skip
            refine xl_pure rfl rfl rfl (pv_pick_t (v := .bool _) rfl rfl rfl) ?_
            refine xl_pure rfl rfl rfl (pv_move (v := .bool _) rfl rfl) ?_
            refine xl_skip rfl rfl rfl ?_
            refine xl_skip rfl rfl rfl ?_
            refine xl_skip rfl rfl rfl ?_
            refine xl_skip rfl rfl rfl ?_
            refine xl_skip rfl rfl rfl ?_
            refine xl_pure rfl rfl rfl (pv_pick_f (v := .bool _) rfl rfl rfl) ?_
            refine xl_pure rfl rfl rfl (pv_move (v := .bool _) rfl rfl) ?_
            refine xl_skip rfl rfl rfl ?_
            refine xl_skip rfl rfl rfl ?_
            refine xl_skip rfl rfl rfl ?_
            refine xl_skip rfl rfl rfl ?_
            refine xl_skip rfl rfl rfl ?_
            refine xl_pure rfl rfl rfl (pv_pick_f (v := .bool _) rfl rfl rfl) ?_
            refine xl_pure rfl rfl rfl (pv_move (v := .bool _) rfl rfl) ?_
            refine xl_skip rfl rfl rfl ?_
            refine xl_skip rfl rfl rfl ?_
            refine xl_skip rfl rfl rfl ?_
            refine xl_skip rfl rfl rfl ?_
            refine xl_skip rfl rfl rfl ?_
            refine xl_pure rfl rfl rfl (pv_pick_f (v := .bool _) rfl rfl rfl) ?_
            refine xl_pure rfl rfl rfl (pv_move (v := .bool _) rfl rfl) ?_
            refine xl_skip rfl rfl rfl ?_
            refine xl_skip rfl rfl rfl ?_
            refine xl_skip rfl rfl rfl ?_
            refine xl_skip rfl rfl rfl ?_
            refine xl_skip rfl rfl rfl ?_
            refine xl_pure rfl rfl rfl (pv_pick_f (v := .bool _) rfl rfl rfl) ?_
            refine xl_pure rfl rfl rfl (pv_move (v := .bool _) rfl rfl) ?_
            refine xl_skip rfl rfl rfl ?_
            refine xl_skip rfl rfl rfl ?_
            refine xl_skip rfl rfl rfl ?_
            refine xl_skip rfl rfl rfl ?_
            refine xl_skip rfl rfl rfl ?_
            refine xl_pure rfl rfl rfl (pv_pick_f (v := .bool _) rfl rfl rfl) ?_
            refine xl_pure rfl rfl rfl (pv_move (v := .bool _) rfl rfl) ?_
            refine xl_skip rfl rfl rfl ?_
            refine xl_skip rfl rfl rfl ?_
            refine xl_skip rfl rfl rfl ?_
            refine xl_skip rfl rfl rfl ?_
            refine xl_skip rfl rfl rfl ?_
            refine xl_pure rfl rfl rfl (pv_pick_f (v := .bool _) rfl rfl rfl) ?_
            refine xl_pure rfl rfl rfl (pv_move (v := .bool _) rfl rfl) ?_
            refine xl_skip rfl rfl rfl ?_
            refine xl_skip rfl rfl rfl ?_
            refine xl_skip rfl rfl rfl ?_
            refine xl_skip rfl rfl rfl ?_
            refine xl_skip rfl rfl rfl ?_
            refine xl_pure rfl rfl rfl (pv_pick_f (v := .bool _) rfl rfl rfl) ?_
            refine xl_pure rfl rfl rfl (pv_move (v := .bool _) rfl rfl) ?_
            refine xl_skip rfl rfl rfl ?_
            refine xl_skip rfl rfl rfl ?_
            refine xl_skip rfl rfl rfl ?_
            refine xl_skip rfl rfl rfl ?_
            refine xl_skip rfl rfl rfl ?_
            refine xl_pure rfl rfl rfl (pv_pick_f (v := .bool _) rfl rfl rfl) ?_
            refine xl_pure rfl rfl rfl (pv_move (v := .bool _) rfl rfl) ?_
            refine xl_skip rfl rfl rfl ?_
            refine xl_skip rfl rfl rfl ?_
            refine xl_skip rfl rfl rfl ?_
            refine xl_skip rfl rfl rfl ?_
            refine xl_skip rfl rfl rfl ?_
            refine xl_pure rfl rfl rfl (pv_pick_f (v := .bool _) rfl rfl rfl) ?_
            refine xl_pure rfl rfl rfl (pv_move (v := .bool _) rfl rfl) ?_
            refine xl_skip rfl rfl rfl ?_
            refine xl_skip rfl rfl rfl ?_
            refine xl_skip rfl rfl rfl ?_
            refine xl_skip rfl rfl rfl ?_
            refine xl_skip rfl rfl rfl ?_
            refine xl_pure rfl rfl rfl (pv_pick_f (v := .bool _) rfl rfl rfl) ?_
            refine xl_pure rfl rfl rfl (pv_move (v := .bool _) rfl rfl) ?_
            refine xl_skip rfl rfl rfl ?_
            refine xl_skip rfl rfl rfl ?_
            refine xl_skip rfl rfl rfl ?_
            refine xl_skip rfl rfl rfl ?_
            refine xl_skip rfl rfl rfl ?_
            refine xl_pure rfl rfl rfl (pv_pick_f (v := .bool _) rfl rfl rfl) ?_
            refine xl_pure rfl rfl rfl (pv_assign (v := .bool _) rfl rfl) ?_
            refine xl_nil ?_
            refine xthen_normal ?_
            refine xc_ret ?_
            refine fin_ret (res1 (v := .bool _) rfl rfl) ?_
            first
              | exact ⟨true, rfl, ⟨fun _ => j_ext h1_4 h1_10 h1_17 h1_24 h1_31 h1_38 h1_45 h1_52 h1_59 h1_66 h1_73 hb1_80 h1_87 h1_94 h1_101 h1_108, fun _ => rfl⟩, hN0_0.ext.trans hN0_1.ext⟩
              | exact ⟨false, rfl, ⟨fun h => absurd h (by decide), fun h => absurd (by rw [h]) h1_4⟩, hN0_0.ext.trans hN0_1.ext⟩
              | exact ⟨false, rfl, ⟨fun h => absurd h (by decide), fun h => absurd (by rw [h]) h1_10⟩, hN0_0.ext.trans hN0_1.ext⟩
              | exact ⟨false, rfl, ⟨fun h => absurd h (by decide), fun h => absurd (by rw [h]) h1_17⟩, hN0_0.ext.trans hN0_1.ext⟩
              | exact ⟨false, rfl, ⟨fun h => absurd h (by decide), fun h => absurd (by rw [h]) h1_24⟩, hN0_0.ext.trans hN0_1.ext⟩
              | exact ⟨false, rfl, ⟨fun h => absurd h (by decide), fun h => absurd (by rw [h]) h1_31⟩, hN0_0.ext.trans hN0_1.ext⟩
              | exact ⟨false, rfl, ⟨fun h => absurd h (by decide), fun h => absurd (by rw [h]) h1_38⟩, hN0_0.ext.trans hN0_1.ext⟩
              | exact ⟨false, rfl, ⟨fun h => absurd h (by decide), fun h => absurd (by rw [h]) h1_45⟩, hN0_0.ext.trans hN0_1.ext⟩
              | exact ⟨false, rfl, ⟨fun h => absurd h (by decide), fun h => absurd (by rw [h]) h1_52⟩, hN0_0.ext.trans hN0_1.ext⟩
              | exact ⟨false, rfl, ⟨fun h => absurd h (by decide), fun h => absurd (by rw [h]) h1_59⟩, hN0_0.ext.trans hN0_1.ext⟩
              | exact ⟨false, rfl, ⟨fun h => absurd h (by decide), fun h => absurd (by rw [h]) h1_66⟩, hN0_0.ext.trans hN0_1.ext⟩
              | exact ⟨false, rfl, ⟨fun h => absurd h (by decide), fun h => absurd (by rw [h]) h1_73⟩, hN0_0.ext.trans hN0_1.ext⟩
              | exact ⟨false, rfl, ⟨fun h => absurd h (by decide), fun h => absurd (by rw [h]) hb1_80⟩, hN0_0.ext.trans hN0_1.ext⟩
              | exact ⟨false, rfl, ⟨fun h => absurd h (by decide), fun h => absurd (by rw [h]) h1_87⟩, hN0_0.ext.trans hN0_1.ext⟩
              | exact ⟨false, rfl, ⟨fun h => absurd h (by decide), fun h => absurd (by rw [h]) h1_94⟩, hN0_0.ext.trans hN0_1.ext⟩
              | exact ⟨false, rfl, ⟨fun h => absurd h (by decide), fun h => absurd (by rw [h]) h1_101⟩, hN0_0.ext.trans hN0_1.ext⟩
              | exact ⟨false, rfl, ⟨fun h => absurd h (by decide), fun h => absurd (by rw [h]) h1_108⟩, hN0_0.ext.trans hN0_1.ext⟩
        · skip
          refine xl_pure rfl rfl rfl (pv_pick_t (v := .bool _) rfl rfl rfl) ?_
          refine xl_pure rfl rfl rfl (pv_move (v := .bool _) rfl rfl) ?_
          refine xl_skip rfl rfl rfl ?_
          refine xl_skip rfl rfl rfl ?_
          refine xl_skip rfl rfl rfl ?_
          refine xl_skip rfl rfl rfl ?_
          refine xl_skip rfl rfl rfl ?_
          refine xl_pure rfl rfl rfl (pv_pick_f (v := .bool _) rfl rfl rfl) ?_
          refine xl_pure rfl rfl rfl (pv_move (v := .bool _) rfl rfl) ?_
          refine xl_skip rfl rfl rfl ?_
          refine xl_skip rfl rfl rfl ?_
          refine xl_skip rfl rfl rfl ?_
          refine xl_skip rfl rfl rfl ?_
          refine xl_skip rfl rfl rfl ?_
          refine xl_pure rfl rfl rfl (pv_pick_f (v := .bool _) rfl rfl rfl) ?_
          refine xl_pure rfl rfl rfl (pv_move (v := .bool _) rfl rfl) ?_
          refine xl_skip rfl rfl rfl ?_
          refine xl_skip rfl rfl rfl ?_
          refine xl_skip rfl rfl rfl ?_
          refine xl_skip rfl rfl rfl ?_
          refine xl_skip rfl rfl rfl ?_
          refine xl_pure rfl rfl rfl (pv_pick_f (v := .bool _) rfl rfl rfl) ?_
          refine xl_pure rfl rfl rfl (pv_move (v := .bool _) rfl rfl) ?_
          refine xl_skip rfl rfl rfl ?_
          refine xl_skip rfl rfl rfl ?_
          refine xl_skip rfl rfl rfl ?_
          refine xl_skip rfl rfl rfl ?_
          refine xl_skip rfl rfl rfl ?_
          refine xl_pure rfl rfl rfl (pv_pick_f (v := .bool _) rfl rfl rfl) ?_
          refine xl_pure rfl rfl rfl (pv_move (v := .bool _) rfl rfl) ?_
          refine xl_skip rfl rfl rfl ?_
          refine xl_skip rfl rfl rfl ?_
          refine xl_skip rfl rfl rfl ?_
          refine xl_skip rfl rfl rfl ?_
          refine xl_skip rfl rfl rfl ?_
          refine xl_pure rfl rfl rfl (pv_pick_f (v := .bool _) rfl rfl rfl) ?_
          refine xl_pure rfl rfl rfl (pv_move (v := .bool _) rfl rfl) ?_
          refine xl_skip rfl rfl rfl ?_
          refine xl_skip rfl rfl rfl ?_
          refine xl_skip rfl rfl rfl ?_
          refine xl_skip rfl rfl rfl ?_
          refine xl_skip rfl rfl rfl ?_
          refine xl_pure rfl rfl rfl (pv_pick_f (v := .bool _) rfl rfl rfl) ?_
          refine xl_pure rfl rfl rfl (pv_move (v := .bool _) rfl rfl) ?_
          refine xl_skip rfl rfl rfl ?_
          refine xl_skip rfl rfl rfl ?_
          refine xl_skip rfl rfl rfl ?_
          refine xl_skip rfl rfl rfl ?_
          refine xl_skip rfl rfl rfl ?_
          refine xl_pure rfl rfl rfl (pv_pick_f (v := .bool _) rfl rfl rfl) ?_
          refine xl_pure rfl rfl rfl (pv_move (v := .bool _) rfl rfl) ?_
          refine xl_skip rfl rfl rfl ?_
          refine xl_skip rfl rfl rfl ?_
          refine xl_skip rfl rfl rfl ?_
          refine xl_skip rfl rfl rfl ?_
          refine xl_skip rfl rfl rfl ?_
          refine xl_pure rfl rfl rfl (pv_pick_f (v := .bool _) rfl rfl rfl) ?_
          refine xl_pure rfl rfl rfl (pv_move (v := .bool _) rfl rfl) ?_
          refine xl_skip rfl rfl rfl ?_
          refine xl_skip rfl rfl rfl ?_
          refine xl_skip rfl rfl rfl ?_
          refine xl_skip rfl rfl rfl ?_
          refine xl_skip rfl rfl rfl ?_
          refine xl_pure rfl rfl rfl (pv_pick_f (v := .bool _) rfl rfl rfl) ?_
          refine xl_pure rfl rfl rfl (pv_move (v := .bool _) rfl rfl) ?_
          refine xl_skip rfl rfl rfl ?_
          refine xl_skip rfl rfl rfl ?_
          refine xl_skip rfl rfl rfl ?_
          refine xl_skip rfl rfl rfl ?_
          refine xl_skip rfl rfl rfl ?_
          refine xl_pure rfl rfl rfl (pv_pick_f (v := .bool _) rfl rfl rfl) ?_
          refine xl_pure rfl rfl rfl (pv_move (v := .bool _) rfl rfl) ?_
          refine xl_skip rfl rfl rfl ?_
          refine xl_skip rfl rfl rfl ?_
          refine xl_skip rfl rfl rfl ?_
          refine xl_skip rfl rfl rfl ?_
          refine xl_skip rfl rfl rfl ?_
          refine xl_pure rfl rfl rfl (pv_pick_f (v := .bool _) rfl rfl rfl) ?_
          refine xl_pure rfl rfl rfl (pv_move (v := .bool _) rfl rfl) ?_
          refine xl_skip rfl rfl rfl ?_
          refine xl_skip rfl rfl rfl ?_
          refine xl_skip rfl rfl rfl ?_
          refine xl_skip rfl rfl rfl ?_
          refine xl_skip rfl rfl rfl ?_
          refine xl_pure rfl rfl rfl (pv_pick_f (v := .bool _) rfl rfl rfl) ?_
          refine xl_pure rfl rfl rfl (pv_assign (v := .bool _) rfl rfl) ?_
          refine xl_nil ?_
          refine xthen_normal ?_
          refine xc_ret ?_
          refine fin_ret (res1 (v := .bool _) rfl rfl) ?_
          first
            | exact ⟨true, rfl, ⟨fun _ => j_ext h1_4 h1_10 h1_17 h1_24 h1_31 h1_38 h1_45 h1_52 h1_59 h1_66 h1_73 hb1_80 h1_87 h1_94 h1_101 h1_108, fun _ => rfl⟩, hN0_0.ext.trans hN0_1.ext⟩
            | exact ⟨false, rfl, ⟨fun h => absurd h (by decide), fun h => absurd (by rw [h]) h1_4⟩, hN0_0.ext.trans hN0_1.ext⟩
            | exact ⟨false, rfl, ⟨fun h => absurd h (by decide), fun h => absurd (by rw [h]) h1_10⟩, hN0_0.ext.trans hN0_1.ext⟩
            | exact ⟨false, rfl, ⟨fun h => absurd h (by decide), fun h => absurd (by rw [h]) h1_17⟩, hN0_0.ext.trans hN0_1.ext⟩
            | exact ⟨false, rfl, ⟨fun h => absurd h (by decide), fun h => absurd (by rw [h]) h1_24⟩, hN0_0.ext.trans hN0_1.ext⟩
            | exact ⟨false, rfl, ⟨fun h => absurd h (by decide), fun h => absurd (by rw [h]) h1_31⟩, hN0_0.ext.trans hN0_1.ext⟩
            | exact ⟨false, rfl, ⟨fun h => absurd h (by decide), fun h => absurd (by rw [h]) h1_38⟩, hN0_0.ext.trans hN0_1.ext⟩
            | exact ⟨false, rfl, ⟨fun h => absurd h (by decide), fun h => absurd (by rw [h]) h1_45⟩, hN0_0.ext.trans hN0_1.ext⟩
            | exact ⟨false, rfl, ⟨fun h => absurd h (by decide), fun h => absurd (by rw [h]) h1_52⟩, hN0_0.ext.trans hN0_1.ext⟩
            | exact ⟨false, rfl, ⟨fun h => absurd h (by decide), fun h => absurd (by rw [h]) h1_59⟩, hN0_0.ext.trans hN0_1.ext⟩
            | exact ⟨false, rfl, ⟨fun h => absurd h (by decide), fun h => absurd (by rw [h]) h1_66⟩, hN0_0.ext.trans hN0_1.ext⟩
            | exact ⟨false, rfl, ⟨fun h => absurd h (by decide), fun h => absurd (by rw [h]) h1_73⟩, hN0_0.ext.trans hN0_1.ext⟩
            | exact ⟨false, rfl, ⟨fun h => absurd h (by decide), fun h => absurd (by rw [h]) hb1_80⟩, hN0_0.ext.trans hN0_1.ext⟩
            | exact ⟨false, rfl, ⟨fun h => absurd h (by decide), fun h => absurd (by rw [h]) h1_87⟩, hN0_0.ext.trans hN0_1.ext⟩
            | exact ⟨false, rfl, ⟨fun h => absurd h (by decide), fun h => absurd (by rw [h]) h1_94⟩, hN0_0.ext.trans hN0_1.ext⟩
            | exact ⟨false, rfl, ⟨fun h => absurd h (by decide), fun h => absurd (by rw [h]) h1_101⟩, hN0_0.ext.trans hN0_1.ext⟩
            | exact ⟨false, rfl, ⟨fun h => absurd h (by decide), fun h => absurd (by rw [h]) h1_108⟩, hN0_0.ext.trans hN0_1.ext⟩
      · skip
        refine xl_pure rfl rfl rfl (pv_pick_t (v := .bool _) rfl rfl rfl) ?_
        refine xl_pure rfl rfl rfl (pv_move (v := .bool _) rfl rfl) ?_
        refine xl_skip rfl rfl rfl ?_
        refine xl_skip rfl rfl rfl ?_
        refine xl_skip rfl rfl rfl ?_
        refine xl_skip rfl rfl rfl ?_
        refine xl_skip rfl rfl rfl ?_
        refine xl_pure rfl rfl rfl (pv_pick_f (v := .bool _) rfl rfl rfl) ?_
        refine xl_pure rfl rfl rfl (pv_move (v := .bool _) rfl rfl) ?_
        refine xl_skip rfl rfl rfl ?_
        refine xl_skip rfl rfl rfl ?_
        refine xl_skip rfl rfl rfl ?_
        refine xl_skip rfl rfl rfl ?_
        refine xl_skip rfl rfl rfl ?_
        refine xl_pure rfl rfl rfl (pv_pick_f (v := .bool _) rfl rfl rfl) ?_
        refine xl_pure rfl rfl rfl (pv_move (v := .bool _) rfl rfl) ?_
        refine xl_skip rfl rfl rfl ?_
        refine xl_skip rfl rfl rfl ?_
        refine xl_skip rfl rfl rfl ?_
        refine xl_skip rfl rfl rfl ?_
        refine xl_skip rfl rfl rfl ?_
        refine xl_pure rfl rfl rfl (pv_pick_f (v := .bool _) rfl rfl rfl) ?_
        refine xl_pure rfl rfl rfl (pv_move (v := .bool _) rfl rfl) ?_
        refine xl_skip rfl rfl rfl ?_
        refine xl_skip rfl rfl rfl ?_
        refine xl_skip rfl rfl rfl ?_
        refine xl_skip rfl rfl rfl ?_
        refine xl_skip rfl rfl rfl ?_
        refine xl_pure rfl rfl rfl (pv_pick_f (v := .bool _) rfl rfl rfl) ?_
        refine xl_pure rfl rfl rfl (pv_move (v := .bool _) rfl rfl) ?_
        refine xl_skip rfl rfl rfl ?_
        refine xl_skip rfl rfl rfl ?_
        refine xl_skip rfl rfl rfl ?_
        refine xl_skip rfl rfl rfl ?_
        refine xl_skip rfl rfl rfl ?_
        refine xl_pure rfl rfl rfl (pv_pick_f (v := .bool _) rfl rfl rfl) ?_
        refine xl_pure rfl rfl rfl (pv_move (v := .bool _) rfl rfl) ?_
        refine xl_skip rfl rfl rfl ?_
        refine xl_skip rfl rfl rfl ?_
        refine xl_skip rfl rfl rfl ?_
        refine xl_skip rfl rfl rfl ?_
        refine xl_skip rfl rfl rfl ?_
        refine xl_pure rfl rfl rfl (pv_pick_f (v := .bool _) rfl rfl rfl) ?_
        refine xl_pure rfl rfl rfl (pv_move (v := .bool _) rfl rfl) ?_
        refine xl_skip rfl rfl rfl ?_
        refine xl_skip rfl rfl rfl ?_
        refine xl_skip rfl rfl rfl ?_
        refine xl_skip rfl rfl rfl ?_
        refine xl_skip rfl rfl rfl ?_
        refine xl_pure rfl rfl rfl (pv_pick_f (v := .bool _) rfl rfl rfl) ?_
        refine xl_pure rfl rfl rfl (pv_move (v := .bool _) rfl rfl) ?_
        refine xl_skip rfl rfl rfl ?_
        refine xl_skip rfl rfl rfl ?_
        refine xl_skip rfl rfl rfl ?_
        refine xl_skip rfl rfl rfl ?_
        refine xl_skip rfl rfl rfl ?_
        refine xl_pure rfl rfl rfl (pv_pick_f (v := .bool _) rfl rfl rfl) ?_
        refine xl_pure rfl rfl rfl (pv_move (v := .bool _) rfl rfl) ?_
        refine xl_skip rfl rfl rfl ?_
        refine xl_skip rfl rfl rfl ?_
        refine xl_skip rfl rfl rfl ?_
        refine xl_skip rfl rfl rfl ?_
        refine xl_skip rfl rfl rfl ?_
        refine xl_pure rfl rfl rfl (pv_pick_f (v := .bool _) rfl rfl rfl) ?_
        refine xl_pure rfl rfl rfl (pv_move (v := .bool _) rfl rfl) ?_
        refine xl_skip rfl rfl rfl ?_
        refine xl_skip rfl rfl rfl ?_
        refine xl_skip rfl rfl rfl ?_
        refine xl_skip rfl rfl rfl ?_
        refine xl_skip rfl rfl rfl ?_
        refine xl_pure rfl rfl rfl (pv_pick_f (v := .bool _) rfl rfl rfl) ?_
        refine xl_pure rfl rfl rfl (pv_move (v := .bool _) rfl rfl) ?_
        refine xl_skip rfl rfl rfl ?_
        refine xl_skip rfl rfl rfl ?_
        refine xl_skip rfl rfl rfl ?_
        refine xl_skip rfl rfl rfl ?_
        refine xl_skip rfl rfl rfl ?_
        refine xl_pure rfl rfl rfl (pv_pick_f (v := .bool _) rfl rfl rfl) ?_
        refine xl_pure rfl rfl rfl (pv_move (v := .bool _) rfl rfl) ?_
        refine xl_skip rfl rfl rfl ?_
        refine xl_skip rfl rfl rfl ?_
        refine xl_skip rfl rfl rfl ?_
        refine xl_skip rfl rfl rfl ?_
        refine xl_skip rfl rfl rfl ?_
        refine xl_pure rfl rfl rfl (pv_pick_f (v := .bool _) rfl rfl rfl) ?_
        refine xl_pure rfl rfl rfl (pv_move (v := .bool _) rfl rfl) ?_
        refine xl_skip rfl rfl rfl ?_
        refine xl_skip rfl rfl rfl ?_
        refine xl_skip rfl rfl rfl ?_
        refine xl_skip rfl rfl rfl ?_
        refine xl_skip rfl rfl rfl ?_
        refine xl_pure rfl rfl rfl (pv_pick_f (v := .bool _) rfl rfl rfl) ?_
        refine xl_pure rfl rfl rfl (pv_assign (v := .bool _) rfl rfl) ?_
        refine xl_nil ?_
        refine xthen_normal ?_
        refine xc_ret ?_
        refine fin_ret (res1 (v := .bool _) rfl rfl) ?_
        first
          | exact ⟨true, rfl, ⟨fun _ => j_ext h1_4 h1_10 h1_17 h1_24 h1_31 h1_38 h1_45 h1_52 h1_59 h1_66 h1_73 hb1_80 h1_87 h1_94 h1_101 h1_108, fun _ => rfl⟩, hN0_0.ext.trans hN0_1.ext⟩
          | exact ⟨false, rfl, ⟨fun h => absurd h (by decide), fun h => absurd (by rw [h]) h1_4⟩, hN0_0.ext.trans hN0_1.ext⟩
          | exact ⟨false, rfl, ⟨fun h => absurd h (by decide), fun h => absurd (by rw [h]) h1_10⟩, hN0_0.ext.trans hN0_1.ext⟩
          | exact ⟨false, rfl, ⟨fun h => absurd h (by decide), fun h => absurd (by rw [h]) h1_17⟩, hN0_0.ext.trans hN0_1.ext⟩
          | exact ⟨false, rfl, ⟨fun h => absurd h (by decide), fun h => absurd (by rw [h]) h1_24⟩, hN0_0.ext.trans hN0_1.ext⟩
          | exact ⟨false, rfl, ⟨fun h => absurd h (by decide), fun h => absurd (by rw [h]) h1_31⟩, hN0_0.ext.trans hN0_1.ext⟩
          | exact ⟨false, rfl, ⟨fun h => absurd h (by decide), fun h => absurd (by rw [h]) h1_38⟩, hN0_0.ext.trans hN0_1.ext⟩
          | exact ⟨false, rfl, ⟨fun h => absurd h (by decide), fun h => absurd (by rw [h]) h1_45⟩, hN0_0.ext.trans hN0_1.ext⟩
          | exact ⟨false, rfl, ⟨fun h => absurd h (by decide), fun h => absurd (by rw [h]) h1_52⟩, hN0_0.ext.trans hN0_1.ext⟩
          | exact ⟨false, rfl, ⟨fun h => absurd h (by decide), fun h => absurd (by rw [h]) h1_59⟩, hN0_0.ext.trans hN0_1.ext⟩
          | exact ⟨false, rfl, ⟨fun h => absurd h (by decide), fun h => absurd (by rw [h]) h1_66⟩, hN0_0.ext.trans hN0_1.ext⟩
          | exact ⟨false, rfl, ⟨fun h => absurd h (by decide), fun h => absurd (by rw [h]) h1_73⟩, hN0_0.ext.trans hN0_1.ext⟩
          | exact ⟨false, rfl, ⟨fun h => absurd h (by decide), fun h => absurd (by rw [h]) hb1_80⟩, hN0_0.ext.trans hN0_1.ext⟩
          | exact ⟨false, rfl, ⟨fun h => absurd h (by decide), fun h => absurd (by rw [h]) h1_87⟩, hN0_0.ext.trans hN0_1.ext⟩
          | exact ⟨false, rfl, ⟨fun h => absurd h (by decide), fun h => absurd (by rw [h]) h1_94⟩, hN0_0.ext.trans hN0_1.ext⟩
          | exact ⟨false, rfl, ⟨fun h => absurd h (by decide), fun h => absurd (by rw [h]) h1_101⟩, hN0_0.ext.trans hN0_1.ext⟩
          | exact ⟨false, rfl, ⟨fun h => absurd h (by decide), fun h => absurd (by rw [h]) h1_108⟩, hN0_0.ext.trans hN0_1.ext⟩
    · skip
      refine xl_pure rfl rfl rfl (pv_pick_t (v := .bool _) rfl rfl rfl) ?_
      refine xl_pure rfl rfl rfl (pv_move (v := .bool _) rfl rfl) ?_
      refine xl_skip rfl rfl rfl ?_
      refine xl_skip rfl rfl rfl ?_
      refine xl_skip rfl rfl rfl ?_
      refine xl_skip rfl rfl rfl ?_
      refine xl_skip rfl rfl rfl ?_
      refine xl_pure rfl rfl rfl (pv_pick_f (v := .bool _) rfl rfl rfl) ?_
      refine xl_pure rfl rfl rfl (pv_move (v := .bool _) rfl rfl) ?_
      refine xl_skip rfl rfl rfl ?_
      refine xl_skip rfl rfl rfl ?_
      refine xl_skip rfl rfl rfl ?_
      refine xl_skip rfl rfl rfl ?_
      refine xl_skip rfl rfl rfl ?_
      refine xl_pure rfl rfl rfl (pv_pick_f (v := .bool _) rfl rfl rfl) ?_
      refine xl_pure rfl rfl rfl (pv_move (v := .bool _) rfl rfl) ?_
      refine xl_skip rfl rfl rfl ?_
      refine xl_skip rfl rfl rfl ?_
      refine xl_skip rfl rfl rfl ?_
      refine xl_skip rfl rfl rfl ?_
      refine xl_skip rfl rfl rfl ?_
      refine xl_pure rfl rfl rfl (pv_pick_f (v := .bool _) rfl rfl rfl) ?_
      refine xl_pure rfl rfl rfl (pv_move (v := .bool _) rfl rfl) ?_
      refine xl_skip rfl rfl rfl ?_
      refine xl_skip rfl rfl rfl ?_
      refine xl_skip rfl rfl rfl ?_
      refine xl_skip rfl rfl rfl ?_
      refine xl_skip rfl rfl rfl ?_
      refine xl_pure rfl rfl rfl (pv_pick_f (v := .bool _) rfl rfl rfl) ?_
      refine xl_pure rfl rfl rfl (pv_move (v := .bool _) rfl rfl) ?_
      refine xl_skip rfl rfl rfl ?_
      refine xl_skip rfl rfl rfl ?_
      refine xl_skip rfl rfl rfl ?_
      refine xl_skip rfl rfl rfl ?_
      refine xl_skip rfl rfl rfl ?_
      refine xl_pure rfl rfl rfl (pv_pick_f (v := .bool _) rfl rfl rfl) ?_
      refine xl_pure rfl rfl rfl (pv_move (v := .bool _) rfl rfl) ?_
      refine xl_skip rfl rfl rfl ?_
      refine xl_skip rfl rfl rfl ?_
      refine xl_skip rfl rfl rfl ?_
      refine xl_skip rfl rfl rfl ?_
      refine xl_skip rfl rfl rfl ?_
      refine xl_pure rfl rfl rfl (pv_pick_f (v := .bool _) rfl rfl rfl) ?_
      refine xl_pure rfl rfl rfl (pv_move (v := .bool _) rfl rfl) ?_
      refine xl_skip rfl rfl rfl ?_
      refine xl_skip rfl rfl rfl ?_
      refine xl_skip rfl rfl rfl ?_
      refine xl_skip rfl rfl rfl ?_
      refine xl_skip rfl rfl rfl ?_
      refine xl_pure rfl rfl rfl (pv_pick_f (v := .bool _) rfl rfl rfl) ?_
      refine xl_pure rfl rfl rfl (pv_move (v := .bool _) rfl rfl) ?_
      refine xl_skip rfl rfl rfl ?_
      refine xl_skip rfl rfl rfl ?_
      refine xl_skip rfl rfl rfl ?_
      refine xl_skip rfl rfl rfl ?_
      refine xl_skip rfl rfl rfl ?_
      refine xl_pure rfl rfl rfl (pv_pick_f (v := .bool _) rfl rfl rfl) ?_
      refine xl_pure rfl rfl rfl (pv_move (v := .bool _) rfl rfl) ?_
      refine xl_skip rfl rfl rfl ?_
      refine xl_skip rfl rfl rfl ?_
      refine xl_skip rfl rfl rfl ?_
      refine xl_skip rfl rfl rfl ?_
      refine xl_skip rfl rfl rfl ?_
      refine xl_pure rfl rfl rfl (pv_pick_f (v := .bool _) rfl rfl rfl) ?_
      refine xl_pure rfl rfl rfl (pv_move (v := .bool _) rfl rfl) ?_
      refine xl_skip rfl rfl rfl ?_
      refine xl_skip rfl rfl rfl ?_
      refine xl_skip rfl rfl rfl ?_
      refine xl_skip rfl rfl rfl ?_
      refine xl_skip rfl rfl rfl ?_
      refine xl_pure rfl rfl rfl (pv_pick_f (v := .bool _) rfl rfl rfl) ?_
      refine xl_pure rfl rfl rfl (pv_move (v := .bool _) rfl rfl) ?_
      refine xl_skip rfl rfl rfl ?_
      refine xl_skip rfl rfl rfl ?_
      refine xl_skip rfl rfl rfl ?_
      refine xl_skip rfl rfl rfl ?_
      refine xl_skip rfl rfl rfl ?_
      refine xl_pure rfl rfl rfl (pv_pick_f (v := .bool _) rfl rfl rfl) ?_
      refine xl_pure rfl rfl rfl (pv_move (v := .bool _) rfl rfl) ?_
      refine xl_skip rfl rfl rfl ?_
      refine xl_skip rfl rfl rfl ?_
      refine xl_skip rfl rfl rfl ?_
      refine xl_skip rfl rfl rfl ?_
      refine xl_skip rfl rfl rfl ?_
      refine xl_pure rfl rfl rfl (pv_pick_f (v := .bool _) rfl rfl rfl) ?_
      refine xl_pure rfl rfl rfl (pv_move (v := .bool _) rfl rfl) ?_
      refine xl_skip rfl rfl rfl ?_
      refine xl_skip rfl rfl rfl ?_
      refine xl_skip rfl rfl rfl ?_
      refine xl_skip rfl rfl rfl ?_
      refine xl_skip rfl rfl rfl ?_
      refine xl_pure rfl rfl rfl (pv_pick_f (v := .bool _) rfl rfl rfl) ?_
      refine xl_pure rfl rfl rfl (pv_move (v := .bool _) rfl rfl) ?_
      refine xl_skip rfl rfl rfl ?_
      refine xl_skip rfl rfl rfl ?_
      refine xl_skip rfl rfl rfl ?_
      refine xl_skip rfl rfl rfl ?_
      refine xl_skip rfl rfl rfl ?_
      refine xl_pure rfl rfl rfl (pv_pick_f (v := .bool _) rfl rfl rfl) ?_
      refine xl_pure rfl rfl rfl (pv_assign (v := .bool _) rfl rfl) ?_
      refine xl_nil ?_
      refine xthen_normal ?_
      refine xc_ret ?_
      refine fin_ret (res1 (v := .bool _) rfl rfl) ?_
      first
        | exact ⟨true, rfl, ⟨fun _ => j_ext h1_4 h1_10 h1_17 h1_24 h1_31 h1_38 h1_45 h1_52 h1_59 h1_66 h1_73 hb1_80 h1_87 h1_94 h1_101 h1_108, fun _ => rfl⟩, hN0_0.ext.trans hN0_1.ext⟩
        | exact ⟨false, rfl, ⟨fun h => absurd h (by decide), fun h => absurd (by rw [h]) h1_4⟩, hN0_0.ext.trans hN0_1.ext⟩
        | exact ⟨false, rfl, ⟨fun h => absurd h (by decide), fun h => absurd (by rw [h]) h1_10⟩, hN0_0.ext.trans hN0_1.ext⟩
        | exact ⟨false, rfl, ⟨fun h => absurd h (by decide), fun h => absurd (by rw [h]) h1_17⟩, hN0_0.ext.trans hN0_1.ext⟩
        | exact ⟨false, rfl, ⟨fun h => absurd h (by decide), fun h => absurd (by rw [h]) h1_24⟩, hN0_0.ext.trans hN0_1.ext⟩
        | exact ⟨false, rfl, ⟨fun h => absurd h (by decide), fun h => absurd (by rw [h]) h1_31⟩, hN0_0.ext.trans hN0_1.ext⟩
        | exact ⟨false, rfl, ⟨fun h => absurd h (by decide), fun h => absurd (by rw [h]) h1_38⟩, hN0_0.ext.trans hN0_1.ext⟩
        | exact ⟨false, rfl, ⟨fun h => absurd h (by decide), fun h => absurd (by rw [h]) h1_45⟩, hN0_0.ext.trans hN0_1.ext⟩
        | exact ⟨false, rfl, ⟨fun h => absurd h (by decide), fun h => absurd (by rw [h]) h1_52⟩, hN0_0.ext.trans hN0_1.ext⟩
        | exact ⟨false, rfl, ⟨fun h => absurd h (by decide), fun h => absurd (by rw [h]) h1_59⟩, hN0_0.ext.trans hN0_1.ext⟩
        | exact ⟨false, rfl, ⟨fun h => absurd h (by decide), fun h => absurd (by rw [h]) h1_66⟩, hN0_0.ext.trans hN0_1.ext⟩
        | exact ⟨false, rfl, ⟨fun h => absurd h (by decide), fun h => absurd (by rw [h]) h1_73⟩, hN0_0.ext.trans hN0_1.ext⟩
        | exact ⟨false, rfl, ⟨fun h => absurd h (by decide), fun h => absurd (by rw [h]) hb1_80⟩, hN0_0.ext.trans hN0_1.ext⟩
        | exact ⟨false, rfl, ⟨fun h => absurd h (by decide), fun h => absurd (by rw [h]) h1_87⟩, hN0_0.ext.trans hN0_1.ext⟩
        | exact ⟨false, rfl, ⟨fun h => absurd h (by decide), fun h => absurd (by rw [h]) h1_94⟩, hN0_0.ext.trans hN0_1.ext⟩
        | exact ⟨false, rfl, ⟨fun h => absurd h (by decide), fun h => absurd (by rw [h]) h1_101⟩, hN0_0.ext.trans hN0_1.ext⟩
        | exact ⟨false, rfl, ⟨fun h => absurd h (by decide), fun h => absurd (by rw [h]) h1_108⟩, hN0_0.ext.trans hN0_1.ext⟩
  · skip
    refine xl_pure rfl rfl rfl (pv_move (v := .bool _) rfl rfl) ?_
    refine xl_skip rfl rfl rfl ?_
    refine xl_skip rfl rfl rfl ?_
    refine xl_skip rfl rfl rfl ?_
    refine xl_skip rfl rfl rfl ?_
    refine xl_skip rfl rfl rfl ?_
    refine xl_pure rfl rfl rfl (pv_pick_f (v := .bool _) rfl rfl rfl) ?_
    refine xl_pure rfl rfl rfl (pv_move (v := .bool _) rfl rfl) ?_
    refine xl_skip rfl rfl rfl ?_
    refine xl_skip rfl rfl rfl ?_
    refine xl_skip rfl rfl rfl ?_
    refine xl_skip rfl rfl rfl ?_
    refine xl_skip rfl rfl rfl ?_
    refine xl_pure rfl rfl rfl (pv_pick_f (v := .bool _) rfl rfl rfl) ?_
    refine xl_pure rfl rfl rfl (pv_move (v := .bool _) rfl rfl) ?_
    refine xl_skip rfl rfl rfl ?_
    refine xl_skip rfl rfl rfl ?_
    refine xl_skip rfl rfl rfl ?_
    refine xl_skip rfl rfl rfl ?_
    refine xl_skip rfl rfl rfl ?_
    refine xl_pure rfl rfl rfl (pv_pick_f (v := .bool _) rfl rfl rfl) ?_
    refine xl_pure rfl rfl rfl (pv_move (v := .bool _) rfl rfl) ?_
    refine xl_skip rfl rfl rfl ?_
    refine xl_skip rfl rfl rfl ?_
    refine xl_skip rfl rfl rfl ?_
    refine xl_skip rfl rfl rfl ?_
    refine xl_skip rfl rfl rfl ?_
    refine xl_pure rfl rfl rfl (pv_pick_f (v := .bool _) rfl rfl rfl) ?_
    refine xl_pure rfl rfl rfl (pv_move (v := .bool _) rfl rfl) ?_
    refine xl_skip rfl rfl rfl ?_
    refine xl_skip rfl rfl rfl ?_
    refine xl_skip rfl rfl rfl ?_
    refine xl_skip rfl rfl rfl ?_
    refine xl_skip rfl rfl rfl ?_
    refine xl_pure rfl rfl rfl (pv_pick_f (v := .bool _) rfl rfl rfl) ?_
    refine xl_pure rfl rfl rfl (pv_move (v := .bool _) rfl rfl) ?_
    refine xl_skip rfl rfl rfl ?_
    refine xl_skip rfl rfl rfl ?_
    refine xl_skip rfl rfl rfl ?_
    refine xl_skip rfl rfl rfl ?_
    refine xl_skip rfl rfl rfl ?_
    refine xl_pure rfl rfl rfl (pv_pick_f (v := .bool _) rfl rfl rfl) ?_
    refine xl_pure rfl rfl rfl (pv_move (v := .bool _) rfl rfl) ?_
    refine xl_skip rfl rfl rfl ?_
    refine xl_skip rfl rfl rfl ?_
    refine xl_skip rfl rfl rfl ?_
    refine xl_skip rfl rfl rfl ?_
    refine xl_skip rfl rfl rfl ?_
    refine xl_pure rfl rfl rfl (pv_pick_f (v := .bool _) rfl rfl rfl) ?_
    refine xl_pure rfl rfl rfl (pv_move (v := .bool _) rfl rfl) ?_
    refine xl_skip rfl rfl rfl ?_
    refine xl_skip rfl rfl rfl ?_
    refine xl_skip rfl rfl rfl ?_
    refine xl_skip rfl rfl rfl ?_
    refine xl_skip rfl rfl rfl ?_
    refine xl_pure rfl rfl rfl (pv_pick_f (v := .bool _) rfl rfl rfl) ?_
    refine xl_pure rfl rfl rfl (pv_move (v := .bool _) rfl rfl) ?_
    refine xl_skip rfl rfl rfl ?_
    refine xl_skip rfl rfl rfl ?_
    refine xl_skip rfl rfl rfl ?_
    refine xl_skip rfl rfl rfl ?_
    refine xl_skip rfl rfl rfl ?_
    refine xl_pure rfl rfl rfl (pv_pick_f (v := .bool _) rfl rfl rfl) ?_
    refine xl_pure rfl rfl rfl (pv_move (v := .bool _) rfl rfl) ?_
    refine xl_skip rfl rfl rfl ?_
    refine xl_skip rfl rfl rfl ?_
    refine xl_skip rfl rfl rfl ?_
    refine xl_skip rfl rfl rfl ?_
    refine xl_skip rfl rfl rfl ?_
    refine xl_pure rfl rfl rfl (pv_pick_f (v := .bool _) rfl rfl rfl) ?_
    refine xl_pure rfl rfl rfl (pv_move (v := .bool _) rfl rfl) ?_
    refine xl_skip rfl rfl rfl ?_
    refine xl_skip rfl rfl rfl ?_
    refine xl_skip rfl rfl rfl ?_
    refine xl_skip rfl rfl rfl ?_
    refine xl_skip rfl rfl rfl ?_
    refine xl_pure rfl rfl rfl (pv_pick_f (v := .bool _) rfl rfl rfl) ?_
    refine xl_pure rfl rfl rfl (pv_move (v := .bool _) rfl rfl) ?_
    refine xl_skip rfl rfl rfl ?_
    refine xl_skip rfl rfl rfl ?_
    refine xl_skip rfl rfl rfl ?_
    refine xl_skip rfl rfl rfl ?_
    refine xl_skip rfl rfl rfl ?_
    refine xl_pure rfl rfl rfl (pv_pick_f (v := .bool _) rfl rfl rfl) ?_
    refine xl_pure rfl rfl rfl (pv_move (v := .bool _) rfl rfl) ?_
    refine xl_skip rfl rfl rfl ?_
    refine xl_skip rfl rfl rfl ?_
    refine xl_skip rfl rfl rfl ?_
    refine xl_skip rfl rfl rfl ?_
    refine xl_skip rfl rfl rfl ?_
    refine xl_pure rfl rfl rfl (pv_pick_f (v := .bool _) rfl rfl rfl) ?_
    refine xl_pure rfl rfl rfl (pv_move (v := .bool _) rfl rfl) ?_
    refine xl_skip rfl rfl rfl ?_
    refine xl_skip rfl rfl rfl ?_
    refine xl_skip rfl rfl rfl ?_
    refine xl_skip rfl rfl rfl ?_
    refine xl_skip rfl rfl rfl ?_
    refine xl_pure rfl rfl rfl (pv_pick_f (v := .bool _) rfl rfl rfl) ?_
    refine xl_pure rfl rfl rfl (pv_move (v := .bool _) rfl rfl) ?_
    refine xl_skip rfl rfl rfl ?_
    refine xl_skip rfl rfl rfl ?_
    refine xl_skip rfl rfl rfl ?_
    refine xl_skip rfl rfl rfl ?_
    refine xl_skip rfl rfl rfl ?_
    refine xl_pure rfl rfl rfl (pv_pick_f (v := .bool _) rfl rfl rfl) ?_
    refine xl_pure rfl rfl rfl (pv_assign (v := .bool _) rfl rfl) ?_
    refine xl_nil ?_
    refine xthen_normal ?_
    refine xc_ret ?_
    refine fin_ret (res1 (v := .bool _) rfl rfl) ?_
    first
      | exact ⟨true, rfl, ⟨fun _ => j_ext h1_4 h1_10 h1_17 h1_24 h1_31 h1_38 h1_45 h1_52 h1_59 h1_66 h1_73 hb1_80 h1_87 h1_94 h1_101 h1_108, fun _ => rfl⟩, hN0_0.ext.trans hN0_1.ext⟩
      | exact ⟨false, rfl, ⟨fun h => absurd h (by decide), fun h => absurd (by rw [h]) h1_4⟩, hN0_0.ext.trans hN0_1.ext⟩
      | exact ⟨false, rfl, ⟨fun h => absurd h (by decide), fun h => absurd (by rw [h]) h1_10⟩, hN0_0.ext.trans hN0_1.ext⟩
      | exact ⟨false, rfl, ⟨fun h => absurd h (by decide), fun h => absurd (by rw [h]) h1_17⟩, hN0_0.ext.trans hN0_1.ext⟩
      | exact ⟨false, rfl, ⟨fun h => absurd h (by decide), fun h => absurd (by rw [h]) h1_24⟩, hN0_0.ext.trans hN0_1.ext⟩
      | exact ⟨false, rfl, ⟨fun h => absurd h (by decide), fun h => absurd (by rw [h]) h1_31⟩, hN0_0.ext.trans hN0_1.ext⟩
      | exact ⟨false, rfl, ⟨fun h => absurd h (by decide), fun h => absurd (by rw [h]) h1_38⟩, hN0_0.ext.trans hN0_1.ext⟩
      | exact ⟨false, rfl, ⟨fun h => absurd h (by decide), fun h => absurd (by rw [h]) h1_45⟩, hN0_0.ext.trans hN0_1.ext⟩
      | exact ⟨false, rfl, ⟨fun h => absurd h (by decide), fun h => absurd (by rw [h]) h1_52⟩, hN0_0.ext.trans hN0_1.ext⟩
      | exact ⟨false, rfl, ⟨fun h => absurd h (by decide), fun h => absurd (by rw [h]) h1_59⟩, hN0_0.ext.trans hN0_1.ext⟩
      | exact ⟨false, rfl, ⟨fun h => absurd h (by decide), fun h => absurd (by rw [h]) h1_66⟩, hN0_0.ext.trans hN0_1.ext⟩
      | exact ⟨false, rfl, ⟨fun h => absurd h (by decide), fun h => absurd (by rw [h]) h1_73⟩, hN0_0.ext.trans hN0_1.ext⟩
      | exact ⟨false, rfl, ⟨fun h => absurd h (by decide), fun h => absurd (by rw [h]) hb1_80⟩, hN0_0.ext.trans hN0_1.ext⟩
      | exact ⟨false, rfl, ⟨fun h => absurd h (by decide), fun h => absurd (by rw [h]) h1_87⟩, hN0_0.ext.trans hN0_1.ext⟩
      | exact ⟨false, rfl, ⟨fun h => absurd h (by decide), fun h => absurd (by rw [h]) h1_94⟩, hN0_0.ext.trans hN0_1.ext⟩
      | exact ⟨false, rfl, ⟨fun h => absurd h (by decide), fun h => absurd (by rw [h]) h1_101⟩, hN0_0.ext.trans hN0_1.ext⟩
      | exact ⟨false, rfl, ⟨fun h => absurd h (by decide), fun h => absurd (by rw [h]) h1_108⟩, hN0_0.ext.trans hN0_1.ext⟩
end Go.XG
