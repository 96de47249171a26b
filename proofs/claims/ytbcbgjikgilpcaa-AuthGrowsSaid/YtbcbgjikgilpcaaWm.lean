/-
  Walks of the seat's functions over the logic XG: each function, what it computes. Printed by a program out of wip/walks.py.
-/
import Derived.Test.YtbcbgjikgilpcaaI
import Derived.Test.YtbcbgjikgilpcaaM
import Derived.Test.YtbcbgjikgilpcaaGc
import Derived.Test.YtbcbgjikgilpcaaWa
import Derived.Test.YtbcbgjikgilpcaaWb
import Derived.Test.YtbcbgjikgilpcaaWc
import Derived.Test.YtbcbgjikgilpcaaWd
import Derived.Test.YtbcbgjikgilpcaaWe
import Derived.Test.YtbcbgjikgilpcaaWf
import Derived.Test.YtbcbgjikgilpcaaWg
import Derived.Test.YtbcbgjikgilpcaaWh
import Derived.Test.YtbcbgjikgilpcaaWi
import Derived.Test.YtbcbgjikgilpcaaWj
import Derived.Test.YtbcbgjikgilpcaaWk
import Derived.Test.YtbcbgjikgilpcaaWl
namespace Go.XG
open Go.Proofs
set_option maxRecDepth 4000
set_option maxHeartbeats 4000000
theorem less0 {p : Prop} [Decidable p] (h : (if p then (0 : Int) else 8) = 0) : p := by
  split at h
  · assumption
  · cases h

theorem c5 {O : Outer} {H : Heap} (x r0 r1 m0 m1 : Int) (hx : 0 ≤ x ∧ x < 256) (hr0 : isR r0) (hr1 : isR r1) (hm0 : 0 ≤ m0 ∧ m0 < 256) (hm1 : 0 ≤ m1 ∧ m1 < 256) :
    FnC Try.prog 5 #[.int .u8 x, .agg #[.int .u8 r0, .int .u8 r1], .agg #[.int .u8 m0, .int .u8 m1]] O H (fun v H' => v = .bool true ∧ Ext H H') := by
  have hc1 : (2 : Int) ≤ (2 + x % 15) := by omega
  have hc2 : (2 + x % 15) ≤ 16 := by omega
  have hn : isR (neeN (5 + m0 % 15) (m1 % 5)) := nee_isR
  have hor := or_isR hr0 hr1
  have hr00 := hr0.1
  have hr01 := hr0.2
  have hor0 := hor.1
  have hor1 := hor.2
  have okA : GOk [[[1, 1]]] := by have h := gok_fou (c := 1) gok_nil; rw [show fouX [] 1 = [[[1, 1]]] by decide] at h; exact h
  have okB : GOk [[[1, 1], [(2 + x % 15), r0]]] := by have h := gok_enr (id := 101) (c := (2 + x % 15)) (r := r0) okA; rw [(gr_enr0 hc1 hc2 hr0).2] at h; exact h
  have okC : GOk [[[1, 1], [(2 + x % 15), ((r0.toNat ||| r1.toNat : Nat) : Int)]]] := by have h := gok_enr (id := 101) (c := (2 + x % 15)) (r := ((r0.toNat ||| r1.toNat : Nat) : Int)) okB; rw [(gr_enr1 hc1 hc2 hor).2] at h; exact h
  refine fn_enter (A := [.int .u8 x, .agg #[.int .u8 r0, .int .u8 r1], .agg #[.int .u8 m0, .int .u8 m1]]) Try.func5 rfl rfl ?_
  have hX := Ext.refl H
  refine xc_seq ?_
  refine xc_region ?_
  refine xl_heavy rfl rfl rfl (hv_box rfl rfl) ?_
  rintro v0_0 H0_0 ⟨b0_0, rfl, hN0_0⟩
  have gb0_0 := hX.fresh hN0_0
  have hX := hX.trans hN0_0.ext
  have m0_0 := hN0_0.blk
  refine xl_heavy rfl rfl rfl (hv_box rfl rfl) ?_
  rintro v0_1 H0_1 ⟨b0_1, rfl, hN0_1⟩
  have gb0_1 := hX.fresh hN0_1
  have nm0_0_0_1 := m0_0.apart hN0_1
  have m0_0 := m0_0.ext hN0_1.ext
  have hX := hX.trans hN0_1.ext
  have m0_1 := hN0_1.blk
  refine xl_pure rfl rfl rfl (pv_assign (v := .bool _) rfl rfl) ?_
  refine xl_nil ?_
  refine xthen_normal ?_
  refine xc_seq ?_
  refine xc_region ?_
  refine xl_pure rfl rfl rfl (pv_move (v := .int _ _) rfl rfl) ?_
  refine xl_pure rfl rfl rfl (pv_conv rfl rfl (fit_i64 (by omega))) ?_
  refine xl_pure rfl rfl rfl (pv_remv (r := x % 15) rfl rfl rfl (by decide) (Int.tmod_eq_emod_of_nonneg hx.1)) ?_
  refine xl_pure rfl rfl rfl (pv_add rfl rfl rfl (fit_i64 (by omega))) ?_
  refine xl_pure rfl rfl rfl (pv_assign (v := .int _ _) rfl rfl) ?_
  refine xl_nil ?_
  refine xthen_normal ?_
  refine xc_seq ?_
  refine xp_start rfl (by repeat (first | with_reducible exact np_fin | with_reducible exact np_ret | with_reducible refine np_then ?_ | with_reducible refine np_block ?_)) (by kernel_rfl) ?_
  refine xp_pure (i := 0) rfl (by kernel_rfl) (by kernel_rfl) rfl rfl rfl (pv_indexAddr_a rfl rfl rfl (by omega)) ?_
  refine xp_light (i := 1) rfl (by kernel_rfl) (by kernel_rfl) rfl rfl rfl (lv_load (v := .int _ _) rfl rfl (ld_blk m0_1 rfl)) ?_
  refine xp_pure (i := 2) rfl (by kernel_rfl) (by kernel_rfl) rfl rfl rfl (pv_indexAddr_a rfl rfl rfl (by omega)) ?_
  refine xp_light (i := 3) rfl (by kernel_rfl) (by kernel_rfl) rfl rfl rfl (lv_load (v := .int _ _) rfl rfl (ld_blk m0_1 rfl)) ?_
  refine xp_pure (i := 4) rfl (by kernel_rfl) (by kernel_rfl) rfl rfl rfl (pv_assign (v := .int _ _) rfl rfl) ?_
  refine xp_pure (i := 5) rfl (by kernel_rfl) (by kernel_rfl) rfl rfl rfl (pv_assign (v := .int _ _) rfl rfl) ?_
  refine xp_done (by kernel_rfl) ?_
  refine xthen_normal ?_
  refine xc_seq ?_
  refine xc_region ?_
  refine xl_pure rfl rfl rfl (pv_build_s (cs := [.slice _ _ _]) rfl rfl rfl) ?_
  refine xl_heavy rfl rfl rfl (hv_box rfl rfl) ?_
  rintro v3_1 H3_1 ⟨b3_1, rfl, hN3_1⟩
  have gb3_1 := hX.fresh hN3_1
  have nm0_0_3_1 := m0_0.apart hN3_1
  have nm0_1_3_1 := m0_1.apart hN3_1
  have m0_0 := m0_0.ext hN3_1.ext
  have m0_1 := m0_1.ext hN3_1.ext
  have hX := hX.trans hN3_1.ext
  have m3_1 := hN3_1.blk
  refine xl_pure rfl rfl rfl (pv_assign (v := .pointer _) rfl rfl) ?_
  refine xl_nil ?_
  refine xthen_normal ?_
  refine xc_seq ?_
  have hne0 : b0_0 ≠ b3_1 := m0_0.ne m3_1 rfl
  have hne1 : b0_1 ≠ b3_1 := m0_1.ne m3_1 rfl
  have hg0 : GAt _ b3_1 H.size [] := ⟨none, 0, [], m3_1, Own.nil _ _ _ _, Mems.nil⟩
  refine xc_region ?_
  refine xl_pure rfl rfl rfl (pv_move (v := .pointer _) rfl rfl) ?_
  refine xl_heavy rfl rfl rfl (hv_call (g := 21) rfl rfl (gFoundG hg0 gok_nil hX.size 1) rfl) ?_
  rintro v4_1 H4_1 ⟨hv4_1, hg4_1, hK4_1⟩
  rw [show fouX [] 1 = [[[1, 1]]] by decide] at hg4_1
  rw [show fouN [] 1 = 101 by decide, show fouE [] 1 = 0 by decide] at hv4_1
  subst hv4_1
  have m0_0 := m0_0.keep hK4_1 (fun hf => by rcases hf with h | ⟨_, cs, h⟩; exact hne0 h; exact h.ne m0_0 rfl rfl)
  have m0_1 := m0_1.keep hK4_1 (fun hf => by rcases hf with h | ⟨_, cs, h⟩; exact hne1 h; exact h.ne m0_1 rfl rfl)
  have hX := hX.keep hK4_1 (gf_ge gb3_1.le)
  have hg := hg4_1
  refine xl_pure rfl rfl rfl (pv_move (v := .tuple _) rfl rfl) ?_
  refine xl_pure rfl rfl rfl (pv_extract (v := .int _ _) rfl rfl rfl) ?_
  refine xl_pure rfl rfl rfl (pv_extract (v := .int _ _) rfl rfl rfl) ?_
  refine xl_pure rfl rfl rfl (pv_assign (v := .int _ _) rfl rfl) ?_
  refine xl_pure rfl rfl rfl (pv_assign (v := .int _ _) rfl rfl) ?_
  refine xl_nil ?_
  refine xthen_normal ?_
  refine xc_seq ?_
  refine xc_region ?_
  refine xl_pure rfl rfl rfl (pv_move (v := .int _ _) rfl rfl) ?_
  refine xl_pure rfl rfl rfl (pv_conv rfl rfl (fit_i64 (by omega))) ?_
  refine xl_pure rfl rfl rfl (pv_remv (r := m0 % 15) rfl rfl rfl (by decide) (Int.tmod_eq_emod_of_nonneg hm0.1)) ?_
  refine xl_pure rfl rfl rfl (pv_add rfl rfl rfl (fit_i64 (by omega))) ?_
  refine xl_pure rfl rfl rfl (pv_move (v := .int _ _) rfl rfl) ?_
  refine xl_pure rfl rfl rfl (pv_conv rfl rfl (fit_i64 (by omega))) ?_
  refine xl_pure rfl rfl rfl (pv_remv (r := m1 % 5) rfl rfl rfl (by decide) (Int.tmod_eq_emod_of_nonneg hm1.1)) ?_
  refine xl_heavy rfl rfl rfl (hv_call (g := 6) rfl rfl (gNeeds (5 + m0 % 15) (m1 % 5)) rfl) ?_
  rintro v5_7 H5_7 ⟨hv5_7, rfl⟩
  rw [show neeE (5 + m0 % 15) (m1 % 5) = 0 by (unfold neeE; rw [if_neg (by omega), if_pos (by omega)])] at hv5_7
  subst hv5_7
  refine xl_pure rfl rfl rfl (pv_move (v := .tuple _) rfl rfl) ?_
  refine xl_pure rfl rfl rfl (pv_extract (v := .int _ _) rfl rfl rfl) ?_
  refine xl_pure rfl rfl rfl (pv_extract (v := .int _ _) rfl rfl rfl) ?_
  refine xl_pure rfl rfl rfl (pv_assign (v := .int _ _) rfl rfl) ?_
  refine xl_pure rfl rfl rfl (pv_assign (v := .int _ _) rfl rfl) ?_
  refine xl_nil ?_
  refine xthen_normal ?_
  refine xc_seq ?_
  refine xc_seq ?_
  refine xc_region ?_
  refine xl_pure rfl rfl rfl (pv_move (v := .int _ _) rfl rfl) ?_
  refine xl_ndec rfl rfl rfl (pv_neq rfl rfl rfl) (fun h6_1 => ?_) (fun h6_1 => ?_)
  · skip
    refine xl_pure rfl rfl rfl (pv_move (v := .bool _) rfl rfl) ?_
    refine xl_pure rfl rfl rfl (pv_move (v := .pointer _) rfl rfl) ?_
    refine xl_pure rfl rfl rfl (pv_move (v := .int _ _) rfl rfl) ?_
    refine xl_pure rfl rfl rfl (pv_move (v := .int _ _) rfl rfl) ?_
    refine xl_heavy rfl rfl rfl (hv_call (g := 12) rfl rfl (gMay hg okA 16 (2 + x % 15) 101 0) rfl) ?_
    rintro v6_6 H6_6 ⟨hv6_6, hE6_6⟩
    have m0_0 := m0_0.ext hE6_6
    have m0_1 := m0_1.ext hE6_6
    have hX := hX.trans hE6_6
    rw [gr_may8 hc1 hc2 (by decide)] at hv6_6
    subst hv6_6
    have hg := hg.ext hE6_6
    refine xl_ndec rfl rfl rfl (pv_neq rfl rfl rfl) (fun h6_7 => ?_) (fun h6_7 => ?_)
    · skip
      refine xl_pure rfl rfl rfl (pv_pick_f (v := .bool _) rfl rfl rfl) ?_
      refine xl_nil ?_
      refine xthen_normal ?_
      refine xc_cond_f rfl ?_
      refine xc_skip ?_
      refine xthen_normal ?_
      refine xc_seq ?_
      refine xc_seq ?_
      refine xc_region ?_
      refine xl_pure rfl rfl rfl (pv_move (v := .int _ _) rfl rfl) ?_
      refine xl_ndec rfl rfl rfl (pv_neq rfl rfl rfl) (fun h8_1 => ?_) (fun h8_1 => ?_)
      · skip
        refine xl_nil ?_
        refine xthen_normal ?_
        refine xc_cond_f rfl ?_
        refine xc_skip ?_
        refine xthen_normal ?_
        refine xc_seq ?_
        refine xc_seq ?_
        refine xc_region ?_
        refine xl_pure rfl rfl rfl (pv_move (v := .pointer _) rfl rfl) ?_
        refine xl_pure rfl rfl rfl (pv_move (v := .int _ _) rfl rfl) ?_
        refine xl_pure rfl rfl rfl (pv_move (v := .int _ _) rfl rfl) ?_
        refine xl_pure rfl rfl rfl (pv_indexAddr_a rfl rfl rfl (by omega)) ?_
        refine xl_light rfl rfl rfl (lv_load (v := .int _ _) rfl rfl (ld_blk m0_0 rfl)) ?_
        refine xl_pure rfl rfl rfl (pv_conv rfl rfl (fit_i64 (by omega))) ?_
        refine xl_heavy rfl rfl rfl (hv_call (g := 22) rfl rfl (gEnrolG hg okA 101 (2 + x % 15) r0) rfl) ?_
        rintro v10_6 H10_6 ⟨hv10_6, hg10_6, hK10_6⟩
        rw [(gr_enr0 hc1 hc2 hr0).2] at hg10_6
        rw [(gr_enr0 hc1 hc2 hr0).1] at hv10_6
        subst hv10_6
        have m0_0 := m0_0.keep hK10_6 (fun hf => by rcases hf with h | ⟨_, cs, h⟩; exact hne0 h; exact h.ne m0_0 rfl rfl)
        have m0_1 := m0_1.keep hK10_6 (fun hf => by rcases hf with h | ⟨_, cs, h⟩; exact hne1 h; exact h.ne m0_1 rfl rfl)
        have hX := hX.keep hK10_6 (gf_ge gb3_1.le)
        have hg := hg10_6
        refine xl_ndec rfl rfl rfl (pv_neq rfl rfl rfl) (fun h10_7 => ?_) (fun h10_7 => ?_)
        · skip
          refine xl_nil ?_
          refine xthen_normal ?_
          refine xc_cond_f rfl ?_
          refine xc_skip ?_
          refine xthen_normal ?_
          refine xc_seq ?_
          refine xc_region ?_
          refine xl_pure rfl rfl rfl (pv_move (v := .pointer _) rfl rfl) ?_
          refine xl_pure rfl rfl rfl (pv_move (v := .int _ _) rfl rfl) ?_
          refine xl_pure rfl rfl rfl (pv_move (v := .int _ _) rfl rfl) ?_
          refine xl_pure rfl rfl rfl (pv_move (v := .int _ _) rfl rfl) ?_
          refine xl_heavy rfl rfl rfl (hv_call (g := 12) rfl rfl (gMay hg okB 16 (2 + x % 15) 101 (neeN (5 + m0 % 15) (m1 % 5))) rfl) ?_
          rintro v12_4 H12_4 ⟨hv12_4, hE12_4⟩
          have m0_0 := m0_0.ext hE12_4
          have m0_1 := m0_1.ext hE12_4
          have hX := hX.trans hE12_4
          rw [gr_may1 hc1 hc2 hn] at hv12_4
          subst hv12_4
          have hg := hg.ext hE12_4
          refine xl_pure rfl rfl rfl (pv_assign (v := .int _ _) rfl rfl) ?_
          refine xl_nil ?_
          refine xthen_normal ?_
          refine xc_seq ?_
          refine xc_seq ?_
          refine xc_region ?_
          refine xl_pure rfl rfl rfl (pv_move (v := .pointer _) rfl rfl) ?_
          refine xl_pure rfl rfl rfl (pv_move (v := .int _ _) rfl rfl) ?_
          refine xl_pure rfl rfl rfl (pv_move (v := .int _ _) rfl rfl) ?_
          refine xl_pure rfl rfl rfl (pv_indexAddr_a rfl rfl rfl (by omega)) ?_
          refine xl_light rfl rfl rfl (lv_load (v := .int _ _) rfl rfl (ld_blk m0_0 rfl)) ?_
          refine xl_pure rfl rfl rfl (pv_indexAddr_a rfl rfl rfl (by omega)) ?_
          refine xl_light rfl rfl rfl (lv_load (v := .int _ _) rfl rfl (ld_blk m0_0 rfl)) ?_
          refine xl_pure rfl rfl rfl (pv_or (r := ((r0.toNat ||| r1.toNat : Nat) : Int)) rfl rfl rfl (or_u8 r0 r1 hr0.1 hr0.2 hr1.1 hr1.2)) ?_
          refine xl_pure rfl rfl rfl (pv_conv rfl rfl (fit_i64 (by omega))) ?_
          refine xl_heavy rfl rfl rfl (hv_call (g := 22) rfl rfl (gEnrolG hg okB 101 (2 + x % 15) ((r0.toNat ||| r1.toNat : Nat) : Int)) rfl) ?_
          rintro v13_9 H13_9 ⟨hv13_9, hg13_9, hK13_9⟩
          rw [(gr_enr1 hc1 hc2 hor).2] at hg13_9
          rw [(gr_enr1 hc1 hc2 hor).1] at hv13_9
          subst hv13_9
          have m0_0 := m0_0.keep hK13_9 (fun hf => by rcases hf with h | ⟨_, cs, h⟩; exact hne0 h; exact h.ne m0_0 rfl rfl)
          have m0_1 := m0_1.keep hK13_9 (fun hf => by rcases hf with h | ⟨_, cs, h⟩; exact hne1 h; exact h.ne m0_1 rfl rfl)
          have hX := hX.keep hK13_9 (gf_ge gb3_1.le)
          have hg := hg13_9
          refine xl_ndec rfl rfl rfl (pv_neq rfl rfl rfl) (fun h13_10 => ?_) (fun h13_10 => ?_)
          · skip
            refine xl_nil ?_
            refine xthen_normal ?_
            refine xc_cond_f rfl ?_
            refine xc_skip ?_
            refine xthen_normal ?_
            refine xc_seq ?_
            refine xc_region ?_
            refine xl_pure rfl rfl rfl (pv_move (v := .pointer _) rfl rfl) ?_
            refine xl_pure rfl rfl rfl (pv_move (v := .int _ _) rfl rfl) ?_
            refine xl_pure rfl rfl rfl (pv_move (v := .int _ _) rfl rfl) ?_
            refine xl_pure rfl rfl rfl (pv_move (v := .int _ _) rfl rfl) ?_
            refine xl_heavy rfl rfl rfl (hv_call (g := 12) rfl rfl (gMay hg okC 16 (2 + x % 15) 101 (neeN (5 + m0 % 15) (m1 % 5))) rfl) ?_
            rintro v15_4 H15_4 ⟨hv15_4, hE15_4⟩
            have m0_0 := m0_0.ext hE15_4
            have m0_1 := m0_1.ext hE15_4
            have hX := hX.trans hE15_4
            rw [gr_may1 hc1 hc2 hn] at hv15_4
            subst hv15_4
            have hg := hg.ext hE15_4
            refine xl_pure rfl rfl rfl (pv_assign (v := .int _ _) rfl rfl) ?_
            refine xl_nil ?_
            refine xthen_normal ?_
            refine xc_seq ?_
            refine xc_region ?_
            refine xl_pure rfl rfl rfl (pv_move (v := .int _ _) rfl rfl) ?_
            refine xl_ndec rfl rfl rfl (pv_neq rfl rfl rfl) (fun h16_1 => ?_) (fun h16_1 => ?_)
            · skip
              refine xl_pure rfl rfl rfl (pv_move (v := .bool _) rfl rfl) ?_
              refine xl_pure rfl rfl rfl (pv_move (v := .int _ _) rfl rfl) ?_
              refine xl_dec rfl rfl rfl (pv_eql rfl rfl rfl) (fun h16_4 => ?_) (fun h16_4 => ?_)
              · skip
                refine xl_pure rfl rfl rfl (pv_pick_f (v := .bool _) rfl rfl rfl) ?_
                refine xl_pure rfl rfl rfl (pv_move (v := .bool _) rfl rfl) ?_
                refine xl_pure rfl rfl rfl (pv_move (v := .pointer _) rfl rfl) ?_
                refine xl_pure rfl rfl rfl (pv_move (v := .int _ _) rfl rfl) ?_
                refine xl_pure rfl rfl rfl (pv_move (v := .int _ _) rfl rfl) ?_
                refine xl_heavy rfl rfl rfl (hv_call (g := 23) rfl rfl (gExpelG hg okC 101 (2 + x % 15)) rfl) ?_
                rintro v16_10 H16_10 ⟨hv16_10, hg16_10, hK16_10⟩
                rw [(gr_exp hc1 hc2).2] at hg16_10
                rw [(gr_exp hc1 hc2).1] at hv16_10
                subst hv16_10
                have m0_0 := m0_0.keep hK16_10 (fun hf => by rcases hf with h | ⟨_, cs, h⟩; exact hne0 h; exact h.ne m0_0 rfl rfl)
                have m0_1 := m0_1.keep hK16_10 (fun hf => by rcases hf with h | ⟨_, cs, h⟩; exact hne1 h; exact h.ne m0_1 rfl rfl)
                have hX := hX.keep hK16_10 (gf_ge gb3_1.le)
                have hg := hg16_10
                refine xl_dec rfl rfl rfl (pv_eql rfl rfl rfl) (fun h16_11 => ?_) (fun h16_11 => ?_)
                · skip
                  refine xl_pure rfl rfl rfl (pv_pick_t (v := .bool _) rfl rfl rfl) ?_
                  refine xl_pure rfl rfl rfl (pv_move (v := .bool _) rfl rfl) ?_
                  refine xl_pure rfl rfl rfl (pv_move (v := .pointer _) rfl rfl) ?_
                  refine xl_pure rfl rfl rfl (pv_move (v := .int _ _) rfl rfl) ?_
                  refine xl_pure rfl rfl rfl (pv_move (v := .int _ _) rfl rfl) ?_
                  refine xl_pure rfl rfl rfl (pv_move (v := .int _ _) rfl rfl) ?_
                  refine xl_heavy rfl rfl rfl (hv_call (g := 12) rfl rfl (gMay hg okA 16 (2 + x % 15) 101 (neeN (5 + m0 % 15) (m1 % 5))) rfl) ?_
                  rintro v16_18 H16_18 ⟨hv16_18, hE16_18⟩
                  have m0_0 := m0_0.ext hE16_18
                  have m0_1 := m0_1.ext hE16_18
                  have hX := hX.trans hE16_18
                  rw [gr_may8 hc1 hc2 hn] at hv16_18
                  subst hv16_18
                  have hg := hg.ext hE16_18
                  refine xl_dec rfl rfl rfl (pv_eql rfl rfl rfl) (fun h16_19 => ?_) (fun h16_19 => ?_)
                  · skip
                    refine xl_pure rfl rfl rfl (pv_pick_t (v := .bool _) rfl rfl rfl) ?_
                    refine xl_pure rfl rfl rfl (pv_move (v := .bool _) rfl rfl) ?_
                    refine xl_pure rfl rfl rfl (pv_move (v := .pointer _) rfl rfl) ?_
                    refine xl_pure rfl rfl rfl (pv_move (v := .int _ _) rfl rfl) ?_
                    refine xl_pure rfl rfl rfl (pv_move (v := .int _ _) rfl rfl) ?_
                    refine xl_heavy rfl rfl rfl (hv_call (g := 12) rfl rfl (gMay hg okA 16 1 101 (neeN (5 + m0 % 15) (m1 % 5))) rfl) ?_
                    rintro v16_25 H16_25 ⟨hv16_25, hE16_25⟩
                    have m0_0 := m0_0.ext hE16_25
                    have m0_1 := m0_1.ext hE16_25
                    have hX := hX.trans hE16_25
                    rw [gr_may0 hn] at hv16_25
                    subst hv16_25
                    have hg := hg.ext hE16_25
                    refine xl_dec rfl rfl rfl (pv_eql rfl rfl rfl) (fun h16_26 => ?_) (fun h16_26 => ?_)
                    · skip
                      refine xl_pure rfl rfl rfl (pv_pick_t (v := .bool _) rfl rfl rfl) ?_
                      refine xl_pure rfl rfl rfl (pv_move (v := .bool _) rfl rfl) ?_
                      refine xl_heavy rfl rfl rfl (hv_call (g := 8) rfl rfl (c9) rfl) ?_
                      rintro v16_29 H16_29 ⟨rfl, hE16_29⟩
                      have m0_0 := m0_0.ext hE16_29
                      have m0_1 := m0_1.ext hE16_29
                      have hX := hX.trans hE16_29
                      refine xl_pure rfl rfl rfl (pv_pick_t (v := .bool _) rfl rfl rfl) ?_
                      refine xl_pure rfl rfl rfl (pv_assign (v := .bool _) rfl rfl) ?_
                      refine xl_nil ?_
                      refine xthen_normal ?_
                      refine xc_ret ?_
                      refine fin_ret (res1 (v := .bool _) rfl rfl) ?_
                      exact ⟨rfl, hX⟩
                    · exact absurd rfl h16_26
                  · exact absurd rfl h16_19
                · exact absurd rfl h16_11
              · exact absurd (if_pos (has_more hr1 (less0 h16_1))) h16_4
            · skip
              refine xl_pure rfl rfl rfl (pv_move (v := .bool _) rfl rfl) ?_
              refine xl_skip rfl rfl rfl ?_
              refine xl_skip rfl rfl rfl ?_
              refine xl_pure rfl rfl rfl (pv_pick_t (v := .bool _) rfl rfl rfl) ?_
              refine xl_pure rfl rfl rfl (pv_move (v := .bool _) rfl rfl) ?_
              refine xl_pure rfl rfl rfl (pv_move (v := .pointer _) rfl rfl) ?_
              refine xl_pure rfl rfl rfl (pv_move (v := .int _ _) rfl rfl) ?_
              refine xl_pure rfl rfl rfl (pv_move (v := .int _ _) rfl rfl) ?_
              refine xl_heavy rfl rfl rfl (hv_call (g := 23) rfl rfl (gExpelG hg okC 101 (2 + x % 15)) rfl) ?_
              rintro v16_10 H16_10 ⟨hv16_10, hg16_10, hK16_10⟩
              rw [(gr_exp hc1 hc2).2] at hg16_10
              rw [(gr_exp hc1 hc2).1] at hv16_10
              subst hv16_10
              have m0_0 := m0_0.keep hK16_10 (fun hf => by rcases hf with h | ⟨_, cs, h⟩; exact hne0 h; exact h.ne m0_0 rfl rfl)
              have m0_1 := m0_1.keep hK16_10 (fun hf => by rcases hf with h | ⟨_, cs, h⟩; exact hne1 h; exact h.ne m0_1 rfl rfl)
              have hX := hX.keep hK16_10 (gf_ge gb3_1.le)
              have hg := hg16_10
              refine xl_dec rfl rfl rfl (pv_eql rfl rfl rfl) (fun h16_11 => ?_) (fun h16_11 => ?_)
              · skip
                refine xl_pure rfl rfl rfl (pv_pick_t (v := .bool _) rfl rfl rfl) ?_
                refine xl_pure rfl rfl rfl (pv_move (v := .bool _) rfl rfl) ?_
                refine xl_pure rfl rfl rfl (pv_move (v := .pointer _) rfl rfl) ?_
                refine xl_pure rfl rfl rfl (pv_move (v := .int _ _) rfl rfl) ?_
                refine xl_pure rfl rfl rfl (pv_move (v := .int _ _) rfl rfl) ?_
                refine xl_pure rfl rfl rfl (pv_move (v := .int _ _) rfl rfl) ?_
                refine xl_heavy rfl rfl rfl (hv_call (g := 12) rfl rfl (gMay hg okA 16 (2 + x % 15) 101 (neeN (5 + m0 % 15) (m1 % 5))) rfl) ?_
                rintro v16_18 H16_18 ⟨hv16_18, hE16_18⟩
                have m0_0 := m0_0.ext hE16_18
                have m0_1 := m0_1.ext hE16_18
                have hX := hX.trans hE16_18
                rw [gr_may8 hc1 hc2 hn] at hv16_18
                subst hv16_18
                have hg := hg.ext hE16_18
                refine xl_dec rfl rfl rfl (pv_eql rfl rfl rfl) (fun h16_19 => ?_) (fun h16_19 => ?_)
                · skip
                  refine xl_pure rfl rfl rfl (pv_pick_t (v := .bool _) rfl rfl rfl) ?_
                  refine xl_pure rfl rfl rfl (pv_move (v := .bool _) rfl rfl) ?_
                  refine xl_pure rfl rfl rfl (pv_move (v := .pointer _) rfl rfl) ?_
                  refine xl_pure rfl rfl rfl (pv_move (v := .int _ _) rfl rfl) ?_
                  refine xl_pure rfl rfl rfl (pv_move (v := .int _ _) rfl rfl) ?_
                  refine xl_heavy rfl rfl rfl (hv_call (g := 12) rfl rfl (gMay hg okA 16 1 101 (neeN (5 + m0 % 15) (m1 % 5))) rfl) ?_
                  rintro v16_25 H16_25 ⟨hv16_25, hE16_25⟩
                  have m0_0 := m0_0.ext hE16_25
                  have m0_1 := m0_1.ext hE16_25
                  have hX := hX.trans hE16_25
                  rw [gr_may0 hn] at hv16_25
                  subst hv16_25
                  have hg := hg.ext hE16_25
                  refine xl_dec rfl rfl rfl (pv_eql rfl rfl rfl) (fun h16_26 => ?_) (fun h16_26 => ?_)
                  · skip
                    refine xl_pure rfl rfl rfl (pv_pick_t (v := .bool _) rfl rfl rfl) ?_
                    refine xl_pure rfl rfl rfl (pv_move (v := .bool _) rfl rfl) ?_
                    refine xl_heavy rfl rfl rfl (hv_call (g := 8) rfl rfl (c9) rfl) ?_
                    rintro v16_29 H16_29 ⟨rfl, hE16_29⟩
                    have m0_0 := m0_0.ext hE16_29
                    have m0_1 := m0_1.ext hE16_29
                    have hX := hX.trans hE16_29
                    refine xl_pure rfl rfl rfl (pv_pick_t (v := .bool _) rfl rfl rfl) ?_
                    refine xl_pure rfl rfl rfl (pv_assign (v := .bool _) rfl rfl) ?_
                    refine xl_nil ?_
                    refine xthen_normal ?_
                    refine xc_ret ?_
                    refine fin_ret (res1 (v := .bool _) rfl rfl) ?_
                    exact ⟨rfl, hX⟩
                  · exact absurd rfl h16_26
                · exact absurd rfl h16_19
              · exact absurd rfl h16_11
          · exact absurd rfl h13_10
        · exact absurd rfl h10_7
      · exact absurd rfl h8_1
    · exact absurd rfl h6_7
  · exact absurd rfl h6_1
end Go.XG
