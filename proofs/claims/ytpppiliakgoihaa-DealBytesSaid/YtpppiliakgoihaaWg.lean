/-
  Walks of the seat's functions over the logic XG: each function, what it computes. Printed by a program out of wip/walks.py.
-/
import Derived.Test.YtpppiliakgoihaaI
import Derived.Test.YtpppiliakgoihaaG
import Derived.Test.YtpppiliakgoihaaP
import Derived.Test.YtpppiliakgoihaaWa
import Derived.Test.YtpppiliakgoihaaWb
import Derived.Test.YtpppiliakgoihaaWc
import Derived.Test.YtpppiliakgoihaaWd
import Derived.Test.YtpppiliakgoihaaQ
import Derived.Test.YtpppiliakgoihaaR
import Derived.Test.YtpppiliakgoihaaXg
import Derived.Test.YtpppiliakgoihaaWe
import Derived.Test.YtpppiliakgoihaaWf
namespace Go.XG
open Go.Proofs
set_option maxRecDepth 4000
set_option maxHeartbeats 4000000
theorem c37 {O : Outer} {H : Heap} (d : D) (a b : Option Addr) (c e : Nat) :
    FnC Try.prog 37 #[.agg (dcs d a b c e).toArray] O H (fun v H' => v = .agg ((nums d).map (Value.int .i64)).toArray ∧ Ext H H') := by
  refine fn_enter (A := [.agg (dcs d a b c e).toArray]) Try.func37 rfl rfl ?_
  refine xc_seq ?_
  refine xc_region ?_
  refine xl_heavy rfl rfl rfl (hv_box rfl rfl) ?_
  rintro v0_0 H0_0 ⟨b0_0, rfl, hN0_0⟩
  have hr := hN0_0.blk
  refine xl_heavy rfl rfl rfl (hv_alloc rfl rfl) ?_
  rintro v0_1 H0_1 ⟨b0_1, rfl, hN0_1⟩
  have hr := hr.ext hN0_1.ext
  have hz := hN0_1.blk
  refine xl_nil ?_
  refine xthen_normal ?_
  refine xc_seq ?_
  refine xc_region ?_
  refine xl_pure rfl rfl rfl (pv_fieldAddr rfl rfl) ?_
  refine xl_light rfl rfl rfl (lv_load (v := .int _ _) rfl rfl (by first | exact ld_blk hr rfl | exact hz)) ?_
  refine xl_pure rfl rfl rfl (pv_fieldAddr rfl rfl) ?_
  refine xl_light rfl rfl rfl (lv_load (v := .int _ _) rfl rfl (by first | exact ld_blk hr rfl | exact hz)) ?_
  refine xl_pure rfl rfl rfl (pv_fieldAddr rfl rfl) ?_
  refine xl_light rfl rfl rfl (lv_load (v := .int _ _) rfl rfl (by first | exact ld_blk hr rfl | exact hz)) ?_
  refine xl_pure rfl rfl rfl (pv_fieldAddr rfl rfl) ?_
  refine xl_light rfl rfl rfl (lv_load (v := .int _ _) rfl rfl (by first | exact ld_blk hr rfl | exact hz)) ?_
  refine xl_pure rfl rfl rfl (pv_fieldAddr rfl rfl) ?_
  refine xl_light rfl rfl rfl (lv_load (v := .int _ _) rfl rfl (by first | exact ld_blk hr rfl | exact hz)) ?_
  refine xl_pure rfl rfl rfl (pv_fieldAddr rfl rfl) ?_
  refine xl_light rfl rfl rfl (lv_load (v := .int _ _) rfl rfl (by first | exact ld_blk hr rfl | exact hz)) ?_
  refine xl_pure rfl rfl rfl (pv_fieldAddr rfl rfl) ?_
  refine xl_light rfl rfl rfl (lv_load (v := .int _ _) rfl rfl (by first | exact ld_blk hr rfl | exact hz)) ?_
  refine xl_pure rfl rfl rfl (pv_fieldAddr rfl rfl) ?_
  refine xl_light rfl rfl rfl (lv_load (v := .int _ _) rfl rfl (by first | exact ld_blk hr rfl | exact hz)) ?_
  refine xl_pure rfl rfl rfl (pv_fieldAddr rfl rfl) ?_
  refine xl_light rfl rfl rfl (lv_load (v := .int _ _) rfl rfl (by first | exact ld_blk hr rfl | exact hz)) ?_
  refine xl_pure rfl rfl rfl (pv_fieldAddr rfl rfl) ?_
  refine xl_light rfl rfl rfl (lv_load (v := .int _ _) rfl rfl (by first | exact ld_blk hr rfl | exact hz)) ?_
  refine xl_pure rfl rfl rfl (pv_fieldAddr rfl rfl) ?_
  refine xl_light rfl rfl rfl (lv_load (v := .int _ _) rfl rfl (by first | exact ld_blk hr rfl | exact hz)) ?_
  refine xl_pure rfl rfl rfl (pv_fieldAddr rfl rfl) ?_
  refine xl_light rfl rfl rfl (lv_load (v := .int _ _) rfl rfl (by first | exact ld_blk hr rfl | exact hz)) ?_
  refine xl_pure rfl rfl rfl (pv_fieldAddr rfl rfl) ?_
  refine xl_light rfl rfl rfl (lv_load (v := .int _ _) rfl rfl (by first | exact ld_blk hr rfl | exact hz)) ?_
  refine xl_pure rfl rfl rfl (pv_fieldAddr rfl rfl) ?_
  refine xl_light rfl rfl rfl (lv_load (v := .int _ _) rfl rfl (by first | exact ld_blk hr rfl | exact hz)) ?_
  refine xl_pure rfl rfl rfl (pv_fieldAddr rfl rfl) ?_
  refine xl_light rfl rfl rfl (lv_load (v := .int _ _) rfl rfl (by first | exact ld_blk hr rfl | exact hz)) ?_
  refine xl_pure rfl rfl rfl (pv_fieldAddr rfl rfl) ?_
  refine xl_light rfl rfl rfl (lv_load (v := .int _ _) rfl rfl (by first | exact ld_blk hr rfl | exact hz)) ?_
  refine xl_pure rfl rfl rfl (pv_fieldAddr rfl rfl) ?_
  refine xl_light rfl rfl rfl (lv_load (v := .int _ _) rfl rfl (by first | exact ld_blk hr rfl | exact hz)) ?_
  refine xl_pure rfl rfl rfl (pv_build_f (cs := [.int _ _, .int _ _, .int _ _, .int _ _, .int _ _, .int _ _, .int _ _, .int _ _, .int _ _, .int _ _, .int _ _, .int _ _, .int _ _, .int _ _, .int _ _, .int _ _, .int _ _]) rfl rfl rfl rfl) ?_
  refine xl_store rfl rfl (hv_storeA (vs := [.int _ _, .int _ _, .int _ _, .int _ _, .int _ _, .int _ _, .int _ _, .int _ _, .int _ _, .int _ _, .int _ _, .int _ _, .int _ _, .int _ _, .int _ _, .int _ _, .int _ _]) rfl rfl rfl (by first | exact ld_blk hr rfl | exact hz) rfl (by rfl) rfl) ?_
  rintro v1_35 H1_35 ⟨hU1_35, hZ1_35⟩
  refine xl_nil ?_
  refine xthen_normal ?_
  refine xc_ret ?_
  refine fin_ret (resv1 rfl (rv_c (ty := 56) rfl (ld_blk_a hU1_35.blk rfl rfl))) ?_
  exact ⟨rfl, (hN0_0.ext.trans hN0_1.ext).ofBut hU1_35.but (Nat.le_trans hN0_0.ext.size hN0_1.ge)⟩

theorem c18 {O : Outer} {H : Heap} (d x : D) (a b a' b' : Option Addr) (c e c' e' : Nat) (hs : Stks H a d.gives) (hs' : Stks H b d.wants) (ht : Stks H a' x.gives) (ht' : Stks H b' x.wants) (hl : d.gives.length < 1099511627776) (hl' : d.wants.length < 1099511627776) :
    FnC Try.prog 18 #[.agg (dcs d a b c e).toArray, .agg (dcs x a' b' c' e').toArray] O H (fun v H' => ∃ r, v = .bool r ∧ (r = true ↔ d = x) ∧ Ext H H') := by
  refine fn_enter (A := [.agg (dcs d a b c e).toArray, .agg (dcs x a' b' c' e').toArray]) Try.func18 rfl rfl ?_
  refine xc_seq ?_
  refine xc_region ?_
  refine xl_heavy rfl rfl rfl (hv_box rfl rfl) ?_
  rintro v0_0 H0_0 ⟨b0_0, rfl, hN0_0⟩
  have hr := hN0_0.blk
  refine xl_heavy rfl rfl rfl (hv_box rfl rfl) ?_
  rintro v0_1 H0_1 ⟨b0_1, rfl, hN0_1⟩
  have hr := hr.ext hN0_1.ext
  have hq := hN0_1.blk
  have hX := hN0_0.ext.trans hN0_1.ext
  refine xl_pure rfl rfl rfl (pv_assign (v := .bool _) rfl rfl) ?_
  refine xl_nil ?_
  refine xthen_normal ?_
  refine xc_seq ?_
  refine xp_start rfl (by repeat (first | with_reducible exact np_fin | with_reducible refine np_then ?_ | with_reducible refine np_block ?_)) (by kernel_rfl) ?_
  refine xp_pure (i := 0) rfl (by kernel_rfl) (by kernel_rfl) rfl rfl rfl (pv_fieldAddr rfl rfl) ?_
  refine xp_light (i := 1) rfl (by kernel_rfl) (by kernel_rfl) rfl rfl rfl (lv_load (v := .slice _ _ _) rfl rfl (by first | exact ld_blk hr rfl | exact ld_blk hq rfl | exact ld_blk_a hr rfl rfl | exact ld_blk_a hq rfl rfl)) ?_
  refine xp_pure (i := 2) rfl (by kernel_rfl) (by kernel_rfl) rfl rfl rfl (pv_fieldAddr rfl rfl) ?_
  refine xp_light (i := 3) rfl (by kernel_rfl) (by kernel_rfl) rfl rfl rfl (lv_load (v := .slice _ _ _) rfl rfl (by first | exact ld_blk hr rfl | exact ld_blk hq rfl | exact ld_blk_a hr rfl rfl | exact ld_blk_a hq rfl rfl)) ?_
  refine xp_heavy (i := 4) (by kernel_rfl) ?_
  refine xph_val rfl rfl rfl rfl (hv_call (g := 36) rfl rfl (gSame _ _ _ _ _ _ (hs.ext hX) (ht.ext hX) (by omega)) rfl) (pd (by kernel_rfl) (pd (by kernel_rfl) pn)) ?_
  rintro v1_4 H1_4 ⟨r1_4, rfl, hb1_4, rfl⟩
  refine ⟨okn, ?_⟩
  cases r1_4
  · skip
    replace hb1_4 := mt hb1_4.2 (by decide)
    refine xp_pure (i := 5) rfl (by kernel_rfl) (by kernel_rfl) rfl rfl rfl (pv_move (v := .bool _) rfl rfl) ?_
    refine xp_skip (i := 6) rfl (by kernel_rfl) (by kernel_rfl) rfl rfl rfl ?_
    refine xp_skip (i := 7) rfl (by kernel_rfl) (by kernel_rfl) rfl rfl rfl ?_
    refine xp_skip (i := 8) rfl (by kernel_rfl) (by kernel_rfl) rfl rfl rfl ?_
    refine xp_skip (i := 9) rfl (by kernel_rfl) (by kernel_rfl) rfl rfl rfl ?_
    refine xp_skip (i := 10) rfl (by kernel_rfl) (by kernel_rfl) rfl rfl rfl ?_
    refine xp_pure (i := 11) rfl (by kernel_rfl) (by kernel_rfl) rfl rfl rfl (pv_pick_f (v := .bool _) rfl rfl rfl) ?_
    refine xp_pure (i := 12) rfl (by kernel_rfl) (by kernel_rfl) rfl rfl rfl (pv_move (v := .bool _) rfl rfl) ?_
    refine xp_skip (i := 13) rfl (by kernel_rfl) (by kernel_rfl) rfl rfl rfl ?_
    refine xp_skip (i := 14) rfl (by kernel_rfl) (by kernel_rfl) rfl rfl rfl ?_
    refine xp_skip (i := 15) rfl (by kernel_rfl) (by kernel_rfl) rfl rfl rfl ?_
    refine xp_skip (i := 16) rfl (by kernel_rfl) (by kernel_rfl) rfl rfl rfl ?_
    refine xp_skip (i := 17) rfl (by kernel_rfl) (by kernel_rfl) rfl rfl rfl ?_
    refine xp_pure (i := 18) rfl (by kernel_rfl) (by kernel_rfl) rfl rfl rfl (pv_pick_f (v := .bool _) rfl rfl rfl) ?_
    refine xp_pure (i := 19) rfl (by kernel_rfl) (by kernel_rfl) rfl rfl rfl (pv_assign (v := .bool _) rfl rfl) ?_
    refine xp_done (by kernel_rfl) ?_
    refine xthen_normal ?_
    refine xc_ret ?_
    refine fin_ret (res1 (v := .bool _) rfl rfl) ?_
    first
      | exact ⟨true, rfl, ⟨fun _ => d_ext hb1_4 hb1_10 h1_17, fun _ => rfl⟩, hX⟩
      | exact ⟨false, rfl, ⟨fun h => absurd h (by decide), fun h => absurd (by rw [h]) h1_17⟩, hX⟩
      | exact ⟨false, rfl, ⟨fun h => absurd h (by decide), fun h => absurd (by rw [h]) hb1_10⟩, hX⟩
      | exact ⟨false, rfl, ⟨fun h => absurd h (by decide), fun h => absurd (by rw [h]) hb1_4⟩, hX⟩
  · skip
    replace hb1_4 := hb1_4.1 rfl
    refine xp_pure (i := 5) rfl (by kernel_rfl) (by kernel_rfl) rfl rfl rfl (pv_move (v := .bool _) rfl rfl) ?_
    refine xp_pure (i := 6) rfl (by kernel_rfl) (by kernel_rfl) rfl rfl rfl (pv_fieldAddr rfl rfl) ?_
    refine xp_light (i := 7) rfl (by kernel_rfl) (by kernel_rfl) rfl rfl rfl (lv_load (v := .slice _ _ _) rfl rfl (by first | exact ld_blk hr rfl | exact ld_blk hq rfl | exact ld_blk_a hr rfl rfl | exact ld_blk_a hq rfl rfl)) ?_
    refine xp_pure (i := 8) rfl (by kernel_rfl) (by kernel_rfl) rfl rfl rfl (pv_fieldAddr rfl rfl) ?_
    refine xp_light (i := 9) rfl (by kernel_rfl) (by kernel_rfl) rfl rfl rfl (lv_load (v := .slice _ _ _) rfl rfl (by first | exact ld_blk hr rfl | exact ld_blk hq rfl | exact ld_blk_a hr rfl rfl | exact ld_blk_a hq rfl rfl)) ?_
    refine xp_heavy (i := 10) (by kernel_rfl) ?_
    refine xph_val rfl rfl rfl rfl (hv_call (g := 36) rfl rfl (gSame _ _ _ _ _ _ (hs'.ext hX) (ht'.ext hX) (by omega)) rfl) (pd (by kernel_rfl) (pd (by kernel_rfl) pn)) ?_
    rintro v1_10 H1_10 ⟨r1_10, rfl, hb1_10, rfl⟩
    refine ⟨okn, ?_⟩
    cases r1_10
    · skip
      replace hb1_10 := mt hb1_10.2 (by decide)
      refine xp_pure (i := 11) rfl (by kernel_rfl) (by kernel_rfl) rfl rfl rfl (pv_pick_t (v := .bool _) rfl rfl rfl) ?_
      refine xp_pure (i := 12) rfl (by kernel_rfl) (by kernel_rfl) rfl rfl rfl (pv_move (v := .bool _) rfl rfl) ?_
      refine xp_skip (i := 13) rfl (by kernel_rfl) (by kernel_rfl) rfl rfl rfl ?_
      refine xp_skip (i := 14) rfl (by kernel_rfl) (by kernel_rfl) rfl rfl rfl ?_
      refine xp_skip (i := 15) rfl (by kernel_rfl) (by kernel_rfl) rfl rfl rfl ?_
      refine xp_skip (i := 16) rfl (by kernel_rfl) (by kernel_rfl) rfl rfl rfl ?_
      refine xp_skip (i := 17) rfl (by kernel_rfl) (by kernel_rfl) rfl rfl rfl ?_
      refine xp_pure (i := 18) rfl (by kernel_rfl) (by kernel_rfl) rfl rfl rfl (pv_pick_f (v := .bool _) rfl rfl rfl) ?_
      refine xp_pure (i := 19) rfl (by kernel_rfl) (by kernel_rfl) rfl rfl rfl (pv_assign (v := .bool _) rfl rfl) ?_
      refine xp_done (by kernel_rfl) ?_
      refine xthen_normal ?_
      refine xc_ret ?_
      refine fin_ret (res1 (v := .bool _) rfl rfl) ?_
      first
        | exact ⟨true, rfl, ⟨fun _ => d_ext hb1_4 hb1_10 h1_17, fun _ => rfl⟩, hX⟩
        | exact ⟨false, rfl, ⟨fun h => absurd h (by decide), fun h => absurd (by rw [h]) h1_17⟩, hX⟩
        | exact ⟨false, rfl, ⟨fun h => absurd h (by decide), fun h => absurd (by rw [h]) hb1_10⟩, hX⟩
        | exact ⟨false, rfl, ⟨fun h => absurd h (by decide), fun h => absurd (by rw [h]) hb1_4⟩, hX⟩
    · skip
      replace hb1_10 := hb1_10.1 rfl
      refine xp_pure (i := 11) rfl (by kernel_rfl) (by kernel_rfl) rfl rfl rfl (pv_pick_t (v := .bool _) rfl rfl rfl) ?_
      refine xp_pure (i := 12) rfl (by kernel_rfl) (by kernel_rfl) rfl rfl rfl (pv_move (v := .bool _) rfl rfl) ?_
      refine xp_light (i := 13) rfl (by kernel_rfl) (by kernel_rfl) rfl rfl rfl (lv_load (v := .agg _) rfl rfl (by first | exact ld_blk hr rfl | exact ld_blk hq rfl | exact ld_blk_a hr rfl rfl | exact ld_blk_a hq rfl rfl)) ?_
      refine xp_light (i := 15) rfl (by kernel_rfl) (by kernel_rfl) rfl rfl rfl (lv_load (v := .agg _) rfl rfl (by first | exact ld_blk hr rfl | exact ld_blk hq rfl | exact ld_blk_a hr rfl rfl | exact ld_blk_a hq rfl rfl)) ?_
      refine xp_heavy (i := 14) (by kernel_rfl) ?_
      refine xph_val rfl rfl rfl rfl (hv_call (g := 37) rfl rfl (c37 d a b c e) rfl) (pk (by kernel_rfl) (pd (by kernel_rfl) pn)) ?_
      rintro v1_14 H1_14 ⟨rfl, hE1_14⟩
      have hX := hX.trans hE1_14
      have hr := hr.ext hE1_14
      have hq := hq.ext hE1_14
      refine ⟨(okc (lv_load (v := .agg _) rfl rfl (by first | exact ld_blk hr rfl | exact ld_blk hq rfl | exact ld_blk_a hr rfl rfl | exact ld_blk_a hq rfl rfl)) okn), ?_⟩
      refine xp_heavy (i := 16) (by kernel_rfl) ?_
      refine xph_val rfl rfl rfl rfl (hv_call (g := 37) rfl rfl (c37 x a' b' c' e') rfl) (pd (by kernel_rfl) pn) ?_
      rintro v1_16 H1_16 ⟨rfl, hE1_16⟩
      have hX := hX.trans hE1_16
      have hr := hr.ext hE1_16
      have hq := hq.ext hE1_16
      refine ⟨okn, ?_⟩
      refine xp_dec (i := 17) rfl (by kernel_rfl) (by kernel_rfl) rfl rfl rfl (pv_eql_ai (nums d) (nums x) rfl rfl rfl rfl rfl) (fun h1_17 => ?_) (fun h1_17 => ?_)
      · skip
        refine xp_pure (i := 18) rfl (by kernel_rfl) (by kernel_rfl) rfl rfl rfl (pv_pick_t (v := .bool _) rfl rfl rfl) ?_
        refine xp_pure (i := 19) rfl (by kernel_rfl) (by kernel_rfl) rfl rfl rfl (pv_assign (v := .bool _) rfl rfl) ?_
        refine xp_done (by kernel_rfl) ?_
        refine xthen_normal ?_
        refine xc_ret ?_
        refine fin_ret (res1 (v := .bool _) rfl rfl) ?_
        first
          | exact ⟨true, rfl, ⟨fun _ => d_ext hb1_4 hb1_10 h1_17, fun _ => rfl⟩, hX⟩
          | exact ⟨false, rfl, ⟨fun h => absurd h (by decide), fun h => absurd (by rw [h]) h1_17⟩, hX⟩
          | exact ⟨false, rfl, ⟨fun h => absurd h (by decide), fun h => absurd (by rw [h]) hb1_10⟩, hX⟩
          | exact ⟨false, rfl, ⟨fun h => absurd h (by decide), fun h => absurd (by rw [h]) hb1_4⟩, hX⟩
      · skip
        refine xp_pure (i := 18) rfl (by kernel_rfl) (by kernel_rfl) rfl rfl rfl (pv_pick_t (v := .bool _) rfl rfl rfl) ?_
        refine xp_pure (i := 19) rfl (by kernel_rfl) (by kernel_rfl) rfl rfl rfl (pv_assign (v := .bool _) rfl rfl) ?_
        refine xp_done (by kernel_rfl) ?_
        refine xthen_normal ?_
        refine xc_ret ?_
        refine fin_ret (res1 (v := .bool _) rfl rfl) ?_
        first
          | exact ⟨true, rfl, ⟨fun _ => d_ext hb1_4 hb1_10 h1_17, fun _ => rfl⟩, hX⟩
          | exact ⟨false, rfl, ⟨fun h => absurd h (by decide), fun h => absurd (by rw [h]) h1_17⟩, hX⟩
          | exact ⟨false, rfl, ⟨fun h => absurd h (by decide), fun h => absurd (by rw [h]) hb1_10⟩, hX⟩
          | exact ⟨false, rfl, ⟨fun h => absurd h (by decide), fun h => absurd (by rw [h]) hb1_4⟩, hX⟩
end Go.XG
