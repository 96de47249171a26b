/-
  Walks of the seat's functions over the logic XG: each function, what it computes. Printed by a program out of wip/walks.py.
-/
import Derived.Test.YtbcbgjikgilpcaaI
import Derived.Test.YtbcbgjikgilpcaaM
import Derived.Test.YtbcbgjikgilpcaaGc
import Derived.Test.YtbcbgjikgilpcaaWa
import Derived.Test.YtbcbgjikgilpcaaWb
import Derived.Test.YtbcbgjikgilpcaaWc
import Derived.Test.YtbcbgjikgilpcaaWd
import Derived.Test.YtbcbgjikgilpcaaWe
import Derived.Test.YtbcbgjikgilpcaaWf
import Derived.Test.YtbcbgjikgilpcaaWg
import Derived.Test.YtbcbgjikgilpcaaWh
import Derived.Test.YtbcbgjikgilpcaaWi
import Derived.Test.YtbcbgjikgilpcaaWj
import Derived.Test.YtbcbgjikgilpcaaWk
namespace Go.XG
open Go.Proofs
set_option maxRecDepth 4000
set_option maxHeartbeats 4000000
theorem c3 {O : Outer} {H : Heap} (k d : Int) :
    FnC Try.prog 3 #[.int .i64 k, .int .i64 d] O H (fun v H' => v = .bool true ∧ Ext H H') := by
  refine fn_enter (A := [.int .i64 k, .int .i64 d]) Try.func3 rfl rfl ?_
  have hX := Ext.refl H
  refine xc_seq ?_
  refine xc_region ?_
  refine xl_pure rfl rfl rfl (pv_assign (v := .bool _) rfl rfl) ?_
  refine xl_nil ?_
  refine xthen_normal ?_
  refine xc_seq ?_
  refine xc_region ?_
  refine xl_pure rfl rfl rfl (pv_move (v := .int _ _) rfl rfl) ?_
  refine xl_pure rfl rfl rfl (pv_move (v := .int _ _) rfl rfl) ?_
  refine xl_heavy rfl rfl rfl (hv_call (g := 6) rfl rfl (gNeeds k d) rfl) ?_
  rintro v1_2 H1_2 ⟨rfl, rfl⟩
  refine xl_pure rfl rfl rfl (pv_move (v := .tuple _) rfl rfl) ?_
  refine xl_pure rfl rfl rfl (pv_extract (v := .int _ _) rfl rfl rfl) ?_
  refine xl_pure rfl rfl rfl (pv_extract (v := .int _ _) rfl rfl rfl) ?_
  refine xl_pure rfl rfl rfl (pv_assign (v := .int _ _) rfl rfl) ?_
  refine xl_pure rfl rfl rfl (pv_assign (v := .int _ _) rfl rfl) ?_
  refine xl_nil ?_
  refine xthen_normal ?_
  refine xc_seq ?_
  refine xc_region ?_
  refine xl_pure rfl rfl rfl (pv_move (v := .int _ _) rfl rfl) ?_
  refine xl_pure rfl rfl rfl (pv_move (v := .int _ _) rfl rfl) ?_
  refine xl_heavy rfl rfl rfl (hv_call (g := 7) rfl rfl (rNeeds k d) rfl) ?_
  rintro v2_2 H2_2 ⟨rfl, rfl⟩
  refine xl_pure rfl rfl rfl (pv_move (v := .tuple _) rfl rfl) ?_
  refine xl_pure rfl rfl rfl (pv_extract (v := .int _ _) rfl rfl rfl) ?_
  refine xl_pure rfl rfl rfl (pv_extract (v := .int _ _) rfl rfl rfl) ?_
  refine xl_pure rfl rfl rfl (pv_assign (v := .int _ _) rfl rfl) ?_
  refine xl_pure rfl rfl rfl (pv_assign (v := .int _ _) rfl rfl) ?_
  refine xl_nil ?_
  refine xthen_normal ?_
  refine xc_seq ?_
  refine xc_region ?_
  refine xl_pure rfl rfl rfl (pv_move (v := .int _ _) rfl rfl) ?_
  refine xl_pure rfl rfl rfl (pv_move (v := .int _ _) rfl rfl) ?_
  refine xl_dec rfl rfl rfl (pv_eql rfl rfl rfl) (fun h3_2 => ?_) (fun h3_2 => ?_)
  · skip
    refine xl_pure rfl rfl rfl (pv_move (v := .bool _) rfl rfl) ?_
    refine xl_pure rfl rfl rfl (pv_move (v := .int _ _) rfl rfl) ?_
    refine xl_pure rfl rfl rfl (pv_move (v := .int _ _) rfl rfl) ?_
    refine xl_dec rfl rfl rfl (pv_eql rfl rfl rfl) (fun h3_6 => ?_) (fun h3_6 => ?_)
    · skip
      refine xl_pure rfl rfl rfl (pv_pick_t (v := .bool _) rfl rfl rfl) ?_
      refine xl_pure rfl rfl rfl (pv_move (v := .bool _) rfl rfl) ?_
      refine xl_heavy rfl rfl rfl (hv_call (g := 8) rfl rfl (c9) rfl) ?_
      rintro v3_9 H3_9 ⟨rfl, hE3_9⟩
      have hX := hX.trans hE3_9
      refine xl_pure rfl rfl rfl (pv_pick_t (v := .bool _) rfl rfl rfl) ?_
      refine xl_pure rfl rfl rfl (pv_assign (v := .bool _) rfl rfl) ?_
      refine xl_nil ?_
      refine xthen_normal ?_
      refine xc_ret ?_
      refine fin_ret (res1 (v := .bool _) rfl rfl) ?_
      exact ⟨rfl, hX⟩
    · exact absurd rfl h3_6
  · exact absurd rfl h3_2

theorem mayM {O : Outer} {H : Heap} {a : Option Addr} {c B0 m : Nat} {X : List (List (List Int))} (hm : X.length = m) (hD : DK H B0 a (tg X)) (hG : GOk X) (ch who az n : Int) :
    FnC Try.prog 13 #[.slice a m c, .int .i64 ch, .int .i64 who, .int .i64 az, .int .i64 n] O H (fun v H' => v = .int .i64 (mayE X ch who az n) ∧ H = H') := by
  subst hm; exact rMayX hD hG ch who az n
theorem exiM {O : Outer} {H : Heap} {a : Option Addr} {c B0 m : Nat} {X : List (List (List Int))} (hm : X.length = m) (hD : DK H B0 a (tg X)) (hG : GOk X) (ch o : Int) :
    FnC Try.prog 15 #[.slice a m c, .int .i64 ch, .int .i64 o] O H (fun v H' => v = .bool (decide (exi X ch o)) ∧ H = H') := by
  subst hm; exact (rExists hD hG ch o).mono fun v H' h => by
    obtain ⟨⟨h1, rfl⟩ | ⟨h1, rfl⟩, rfl⟩ := h
    · exact ⟨by rw [decide_eq_true h1], rfl⟩
    · exact ⟨by rw [decide_eq_false h1], rfl⟩
theorem exiG {O : Outer} {H : Heap} {bp B : Nat} {X : List (List (List Int))} (hg : GAt H bp B X) (hG : GOk X) (ch o : Int) :
    FnC Try.prog 14 #[.pointer (some ⟨bp, 0, none⟩), .int .i64 ch, .int .i64 o] O H (fun v H' => v = .bool (decide (exi X ch o)) ∧ Ext H H') :=
  (gExists hg hG ch o).mono fun v H' h => by
    obtain ⟨⟨h1, rfl⟩ | ⟨h1, rfl⟩, h2⟩ := h
    · exact ⟨by rw [decide_eq_true h1], h2⟩
    · exact ⟨by rw [decide_eq_false h1], h2⟩
theorem whoM {O : Outer} {H : Heap} {a : Option Addr} {c B0 m : Nat} {X : List (List (List Int))} (hm : X.length = m) (hD : DK H B0 a (tg X)) (hG : GOk X) (ch az n : Int) :
    FnC Try.prog 20 #[.slice a m c, .int .i64 ch, .int .i64 az, .int .i64 n] O H (fun v H' => ∃ a' c', v = .slice a' (whoI X ch az n 16).length c' ∧ Ints H' a' (whoI X ch az n 16) ∧ Ext H H') := by
  subst hm; exact rWho hD hG ch az n

theorem c4 {O : Outer} {H : Heap} {al : Option Addr} {cl : Nat} {D : List (Int × List (List Int))} (hDh : ∀ B, H.size ≤ B → DK H B al D) (hcl : D.length ≤ cl) (n0 n1 n2 n3 : Int) :
    FnC Try.prog 4 #[.slice al D.length cl, .agg #[.int .i64 n0, .int .i64 n1, .int .i64 n2, .int .i64 n3]] O H (fun v H' => v = .bool true ∧ Ext H H') := by
  refine fn_enter (A := [.slice al D.length cl, .agg #[.int .i64 n0, .int .i64 n1, .int .i64 n2, .int .i64 n3]]) Try.func4 rfl rfl ?_
  have hX := Ext.refl H
  refine xc_seq ?_
  refine xc_region ?_
  refine xl_heavy rfl rfl rfl (hv_box rfl rfl) ?_
  rintro v0_0 H0_0 ⟨b0_0, rfl, hN0_0⟩
  have gb0_0 := hX.fresh hN0_0
  have hX := hX.trans hN0_0.ext
  have m0_0 := hN0_0.blk
  refine xl_pure rfl rfl rfl (pv_assign (v := .bool _) rfl rfl) ?_
  refine xl_nil ?_
  refine xthen_normal ?_
  refine xc_seq ?_
  refine xc_seq ?_
  refine xc_region ?_
  refine xl_pure rfl rfl rfl (pv_move (v := .slice _ _ _) rfl rfl) ?_
  refine xl_heavy rfl rfl rfl (hv_call (g := 9) rfl rfl (rFew ((hDh H.size (Nat.le_refl _)).ext hX)) rfl) ?_
  rintro v1_1 H1_1 ⟨r1_1, rfl, hf1_1, rfl⟩
  cases r1_1
  · skip
    refine xl_pure rfl rfl rfl (pv_not rfl rfl) ?_
    refine xl_nil ?_
    refine xthen_normal ?_
    refine xc_cond_t rfl ?_
    refine xc_seq ?_
    refine xc_region ?_
    refine xl_heavy rfl rfl rfl (hv_call (g := 8) rfl rfl (c9) rfl) ?_
    rintro v2_0 H2_0 ⟨rfl, hE2_0⟩
    have m0_0 := m0_0.ext hE2_0
    have hX := hX.trans hE2_0
    refine xl_pure rfl rfl rfl (pv_assign (v := .bool _) rfl rfl) ?_
    refine xl_nil ?_
    refine xthen_normal ?_
    refine xc_ret ?_
    refine xthen_ret ?_
    refine fin_ret (res1 (v := .bool _) rfl rfl) ?_
    exact ⟨rfl, hX⟩
  · skip
    obtain ⟨hf1, hf2⟩ := hf1_1 rfl
    refine xl_pure rfl rfl rfl (pv_not rfl rfl) ?_
    refine xl_nil ?_
    refine xthen_normal ?_
    refine xc_cond_f rfl ?_
    refine xc_skip ?_
    refine xthen_normal ?_
    refine xc_seq ?_
    have hX0 := hX
    refine xc_region ?_
    refine xl_pure rfl rfl rfl (pv_move (v := .slice _ _ _) rfl rfl) ?_
    refine xl_heavy rfl rfl rfl (hv_call (g := 10) rfl rfl (gLoad ((hDh H.size (Nat.le_refl _)).ext hX) (fun k hk => by have := hf2 k hk; omega) (by omega)) rfl) ?_
    rintro v3_1 H3_1 ⟨e3_1, hl3_1, hv3_1, hE3_1⟩
    have m0_0 := m0_0.ext hE3_1
    have hX := hX.trans hE3_1
    rcases hv3_1 with ⟨rfl, bp, rfl, gbp, hg⟩ | ⟨hne, rfl⟩
    · skip
      have hall : AllG D := by rcases hl3_1 with ⟨_, h⟩ | ⟨h, _⟩; exact h; cases h
      have hgo := hall.ok
      have hlx : (mX D).length = D.length := mX_len
      have hBs := hX0.size
      refine xl_pure rfl rfl rfl (pv_move (v := .tuple _) rfl rfl) ?_
      refine xl_pure rfl rfl rfl (pv_extract (v := .pointer _) rfl rfl rfl) ?_
      refine xl_pure rfl rfl rfl (pv_extract (v := .int _ _) rfl rfl rfl) ?_
      refine xl_pure rfl rfl rfl (pv_assign (v := .pointer _) rfl rfl) ?_
      refine xl_pure rfl rfl rfl (pv_assign (v := .int _ _) rfl rfl) ?_
      refine xl_nil ?_
      refine xthen_normal ?_
      refine xc_seq ?_
      refine xc_region ?_
      refine xl_pure rfl rfl rfl (pv_move (v := .slice _ _ _) rfl rfl) ?_
      refine xl_heavy rfl rfl rfl (hv_call (g := 11) rfl rfl (rLoad ((hDh H0_0.size hBs).ext hX) (fun k hk => by have := hf2 k hk; omega) (by omega)) rfl) ?_
      rintro v4_1 H4_1 ⟨e4_1, hl4_1, hv4_1, rfl⟩
      have he4_1 := hl4_1.uniq hl3_1
      rw [he4_1] at hv4_1
      obtain rfl : v4_1 = .tuple #[.slice al D.length cl, .int .i64 0] := by rcases hv4_1 with ⟨_, h⟩ | ⟨h, _⟩; exact h; exact absurd rfl h
      have hQ := (hDh H0_0.size hBs).ext hX
      rw [hall.tg] at hQ
      refine xl_pure rfl rfl rfl (pv_move (v := .tuple _) rfl rfl) ?_
      refine xl_pure rfl rfl rfl (pv_extract (v := .slice _ _ _) rfl rfl rfl) ?_
      refine xl_pure rfl rfl rfl (pv_extract (v := .int _ _) rfl rfl rfl) ?_
      refine xl_pure rfl rfl rfl (pv_assign (v := .slice _ _ _) rfl rfl) ?_
      refine xl_pure rfl rfl rfl (pv_assign (v := .int _ _) rfl rfl) ?_
      refine xl_nil ?_
      refine xthen_normal ?_
      refine xc_seq ?_
      refine xc_seq ?_
      refine xc_region ?_
      refine xl_pure rfl rfl rfl (pv_move (v := .int _ _) rfl rfl) ?_
      refine xl_pure rfl rfl rfl (pv_move (v := .int _ _) rfl rfl) ?_
      refine xl_ndec rfl rfl rfl (pv_neq rfl rfl rfl) (fun h5_2 => ?_) (fun h5_2 => ?_)
      · skip
        refine xl_nil ?_
        refine xthen_normal ?_
        refine xc_cond_f rfl ?_
        refine xc_skip ?_
        refine xthen_normal ?_
        refine xc_seq ?_
        refine xc_seq ?_
        refine xc_region ?_
        refine xl_pure rfl rfl rfl (pv_move (v := .int _ _) rfl rfl) ?_
        refine xl_ndec rfl rfl rfl (pv_neq rfl rfl rfl) (fun h7_1 => ?_) (fun h7_1 => ?_)
        · skip
          refine xl_nil ?_
          refine xthen_normal ?_
          refine xc_cond_f rfl ?_
          refine xc_skip ?_
          refine xthen_normal ?_
          refine xc_seq ?_
          refine xp_start rfl (by repeat (first | with_reducible exact np_fin | with_reducible exact np_ret | with_reducible refine np_then ?_ | with_reducible refine np_block ?_)) (by kernel_rfl) ?_
          refine xp_pure (i := 0) rfl (by kernel_rfl) (by kernel_rfl) rfl rfl rfl (pv_move (v := .pointer _) rfl rfl) ?_
          refine xp_pure (i := 1) rfl (by kernel_rfl) (by kernel_rfl) rfl rfl rfl (pv_indexAddr_a rfl rfl rfl (by omega)) ?_
          refine xp_light (i := 2) rfl (by kernel_rfl) (by kernel_rfl) rfl rfl rfl (lv_load (v := .int _ _) rfl rfl (ld_blk m0_0 rfl)) ?_
          refine xp_pure (i := 3) rfl (by kernel_rfl) (by kernel_rfl) rfl rfl rfl (pv_indexAddr_a rfl rfl rfl (by omega)) ?_
          refine xp_light (i := 4) rfl (by kernel_rfl) (by kernel_rfl) rfl rfl rfl (lv_load (v := .int _ _) rfl rfl (ld_blk m0_0 rfl)) ?_
          refine xp_pure (i := 5) rfl (by kernel_rfl) (by kernel_rfl) rfl rfl rfl (pv_indexAddr_a rfl rfl rfl (by omega)) ?_
          refine xp_light (i := 6) rfl (by kernel_rfl) (by kernel_rfl) rfl rfl rfl (lv_load (v := .int _ _) rfl rfl (ld_blk m0_0 rfl)) ?_
          refine xp_pure (i := 7) rfl (by kernel_rfl) (by kernel_rfl) rfl rfl rfl (pv_indexAddr_a rfl rfl rfl (by omega)) ?_
          refine xp_light (i := 8) rfl (by kernel_rfl) (by kernel_rfl) rfl rfl rfl (lv_load (v := .int _ _) rfl rfl (ld_blk m0_0 rfl)) ?_
          refine xp_pure (i := 10) rfl (by kernel_rfl) (by kernel_rfl) rfl rfl rfl (pv_move (v := .slice _ _ _) rfl rfl) ?_
          refine xp_pure (i := 11) rfl (by kernel_rfl) (by kernel_rfl) rfl rfl rfl (pv_indexAddr_a rfl rfl rfl (by omega)) ?_
          refine xp_light (i := 12) rfl (by kernel_rfl) (by kernel_rfl) rfl rfl rfl (lv_load (v := .int _ _) rfl rfl (ld_blk m0_0 rfl)) ?_
          refine xp_pure (i := 13) rfl (by kernel_rfl) (by kernel_rfl) rfl rfl rfl (pv_indexAddr_a rfl rfl rfl (by omega)) ?_
          refine xp_light (i := 14) rfl (by kernel_rfl) (by kernel_rfl) rfl rfl rfl (lv_load (v := .int _ _) rfl rfl (ld_blk m0_0 rfl)) ?_
          refine xp_pure (i := 15) rfl (by kernel_rfl) (by kernel_rfl) rfl rfl rfl (pv_indexAddr_a rfl rfl rfl (by omega)) ?_
          refine xp_light (i := 16) rfl (by kernel_rfl) (by kernel_rfl) rfl rfl rfl (lv_load (v := .int _ _) rfl rfl (ld_blk m0_0 rfl)) ?_
          refine xp_pure (i := 17) rfl (by kernel_rfl) (by kernel_rfl) rfl rfl rfl (pv_indexAddr_a rfl rfl rfl (by omega)) ?_
          refine xp_light (i := 18) rfl (by kernel_rfl) (by kernel_rfl) rfl rfl rfl (lv_load (v := .int _ _) rfl rfl (ld_blk m0_0 rfl)) ?_
          refine xp_heavy (i := 9) (by kernel_rfl) ?_
          refine xph_val rfl rfl rfl rfl (hv_call (g := 12) rfl rfl (gMay hg hgo n0 n1 n2 n3) rfl) (pk (by kernel_rfl) (pk (by kernel_rfl) (pk (by kernel_rfl) (pk (by kernel_rfl) (pd (by kernel_rfl) (pd (by kernel_rfl) (pd (by kernel_rfl) (pd (by kernel_rfl) pn)))))))) ?_
          rintro v9_9 H9_9 ⟨rfl, hE9_9⟩
          have m0_0 := m0_0.ext hE9_9
          have hX := hX.trans hE9_9
          have hg := hg.ext hE9_9
          have hQ := hQ.ext hE9_9
          refine ⟨(okc (lv_load (v := .int _ _) rfl rfl (ld_blk m0_0 rfl)) (okc (lv_load (v := .int _ _) rfl rfl (ld_blk m0_0 rfl)) (okc (lv_load (v := .int _ _) rfl rfl (ld_blk m0_0 rfl)) (okc (lv_load (v := .int _ _) rfl rfl (ld_blk m0_0 rfl)) okn)))), ?_⟩
          refine xp_heavy (i := 19) (by kernel_rfl) ?_
          refine xph_val rfl rfl rfl rfl (hv_call (g := 13) rfl rfl (mayM hlx hQ hgo n0 n1 n2 n3) rfl) (pd (by kernel_rfl) (pd (by kernel_rfl) (pd (by kernel_rfl) (pd (by kernel_rfl) pn)))) ?_
          rintro v9_19 H9_19 ⟨rfl, rfl⟩
          refine ⟨okn, ?_⟩
          refine xp_dec (i := 20) rfl (by kernel_rfl) (by kernel_rfl) rfl rfl rfl (pv_eql rfl rfl rfl) (fun h9_20 => ?_) (fun h9_20 => ?_)
          · skip
            refine xp_pure (i := 21) rfl (by kernel_rfl) (by kernel_rfl) rfl rfl rfl (pv_move (v := .bool _) rfl rfl) ?_
            refine xp_pure (i := 22) rfl (by kernel_rfl) (by kernel_rfl) rfl rfl rfl (pv_move (v := .pointer _) rfl rfl) ?_
            refine xp_pure (i := 23) rfl (by kernel_rfl) (by kernel_rfl) rfl rfl rfl (pv_indexAddr_a rfl rfl rfl (by omega)) ?_
            refine xp_light (i := 24) rfl (by kernel_rfl) (by kernel_rfl) rfl rfl rfl (lv_load (v := .int _ _) rfl rfl (ld_blk m0_0 rfl)) ?_
            refine xp_pure (i := 25) rfl (by kernel_rfl) (by kernel_rfl) rfl rfl rfl (pv_indexAddr_a rfl rfl rfl (by omega)) ?_
            refine xp_light (i := 26) rfl (by kernel_rfl) (by kernel_rfl) rfl rfl rfl (lv_load (v := .int _ _) rfl rfl (ld_blk m0_0 rfl)) ?_
            refine xp_pure (i := 28) rfl (by kernel_rfl) (by kernel_rfl) rfl rfl rfl (pv_move (v := .slice _ _ _) rfl rfl) ?_
            refine xp_pure (i := 29) rfl (by kernel_rfl) (by kernel_rfl) rfl rfl rfl (pv_indexAddr_a rfl rfl rfl (by omega)) ?_
            refine xp_light (i := 30) rfl (by kernel_rfl) (by kernel_rfl) rfl rfl rfl (lv_load (v := .int _ _) rfl rfl (ld_blk m0_0 rfl)) ?_
            refine xp_pure (i := 31) rfl (by kernel_rfl) (by kernel_rfl) rfl rfl rfl (pv_indexAddr_a rfl rfl rfl (by omega)) ?_
            refine xp_light (i := 32) rfl (by kernel_rfl) (by kernel_rfl) rfl rfl rfl (lv_load (v := .int _ _) rfl rfl (ld_blk m0_0 rfl)) ?_
            refine xp_heavy (i := 27) (by kernel_rfl) ?_
            refine xph_val rfl rfl rfl rfl (hv_call (g := 14) rfl rfl (exiG hg hgo n0 n2) rfl) (pk (by kernel_rfl) (pk (by kernel_rfl) (pd (by kernel_rfl) (pd (by kernel_rfl) pn)))) ?_
            rintro v9_27 H9_27 ⟨rfl, hE9_27⟩
            have m0_0 := m0_0.ext hE9_27
            have hX := hX.trans hE9_27
            have hg := hg.ext hE9_27
            have hQ := hQ.ext hE9_27
            refine ⟨(okc (lv_load (v := .int _ _) rfl rfl (ld_blk m0_0 rfl)) (okc (lv_load (v := .int _ _) rfl rfl (ld_blk m0_0 rfl)) okn)), ?_⟩
            refine xp_heavy (i := 33) (by kernel_rfl) ?_
            refine xph_val rfl rfl rfl rfl (hv_call (g := 15) rfl rfl (exiM hlx hQ hgo n0 n2) rfl) (pd (by kernel_rfl) (pd (by kernel_rfl) pn)) ?_
            rintro v9_33 H9_33 ⟨rfl, rfl⟩
            refine ⟨okn, ?_⟩
            refine xp_pure (i := 34) rfl (by kernel_rfl) (by kernel_rfl) rfl rfl rfl (pv_eql_same rfl rfl rfl) ?_
            refine xp_pure (i := 35) rfl (by kernel_rfl) (by kernel_rfl) rfl rfl rfl (pv_pick_t (v := .bool _) rfl rfl rfl) ?_
            refine xp_pure (i := 36) rfl (by kernel_rfl) (by kernel_rfl) rfl rfl rfl (pv_move (v := .bool _) rfl rfl) ?_
            refine xp_pure (i := 37) rfl (by kernel_rfl) (by kernel_rfl) rfl rfl rfl (pv_indexAddr_a rfl rfl rfl (by omega)) ?_
            refine xp_light (i := 38) rfl (by kernel_rfl) (by kernel_rfl) rfl rfl rfl (lv_load (v := .int _ _) rfl rfl (ld_blk m0_0 rfl)) ?_
            refine xp_pure (i := 39) rfl (by kernel_rfl) (by kernel_rfl) rfl rfl rfl (pv_indexAddr_a rfl rfl rfl (by omega)) ?_
            refine xp_light (i := 40) rfl (by kernel_rfl) (by kernel_rfl) rfl rfl rfl (lv_load (v := .int _ _) rfl rfl (ld_blk m0_0 rfl)) ?_
            refine xp_pure (i := 42) rfl (by kernel_rfl) (by kernel_rfl) rfl rfl rfl (pv_indexAddr_a rfl rfl rfl (by omega)) ?_
            refine xp_light (i := 43) rfl (by kernel_rfl) (by kernel_rfl) rfl rfl rfl (lv_load (v := .int _ _) rfl rfl (ld_blk m0_0 rfl)) ?_
            refine xp_pure (i := 44) rfl (by kernel_rfl) (by kernel_rfl) rfl rfl rfl (pv_indexAddr_a rfl rfl rfl (by omega)) ?_
            refine xp_light (i := 45) rfl (by kernel_rfl) (by kernel_rfl) rfl rfl rfl (lv_load (v := .int _ _) rfl rfl (ld_blk m0_0 rfl)) ?_
            refine xp_heavy (i := 41) (by kernel_rfl) ?_
            refine xph_val rfl rfl rfl rfl (hv_call (g := 16) rfl rfl (gDiv n2 n1) rfl) (pk (by kernel_rfl) (pk (by kernel_rfl) (pd (by kernel_rfl) (pd (by kernel_rfl) pn)))) ?_
            rintro v9_41 H9_41 ⟨rfl, rfl⟩
            refine ⟨(okc (lv_load (v := .int _ _) rfl rfl (ld_blk m0_0 rfl)) (okc (lv_load (v := .int _ _) rfl rfl (ld_blk m0_0 rfl)) okn)), ?_⟩
            refine xp_heavy (i := 46) (by kernel_rfl) ?_
            refine xph_val rfl rfl rfl rfl (hv_call (g := 17) rfl rfl (rDiv n2 n1) rfl) (pd (by kernel_rfl) (pd (by kernel_rfl) pn)) ?_
            rintro v9_46 H9_46 ⟨rfl, rfl⟩
            refine ⟨okn, ?_⟩
            refine xp_pure (i := 47) rfl (by kernel_rfl) (by kernel_rfl) rfl rfl rfl (pv_eql_same rfl rfl rfl) ?_
            refine xp_pure (i := 48) rfl (by kernel_rfl) (by kernel_rfl) rfl rfl rfl (pv_pick_t (v := .bool _) rfl rfl rfl) ?_
            refine xp_pure (i := 49) rfl (by kernel_rfl) (by kernel_rfl) rfl rfl rfl (pv_move (v := .bool _) rfl rfl) ?_
            refine xp_pure (i := 50) rfl (by kernel_rfl) (by kernel_rfl) rfl rfl rfl (pv_move (v := .pointer _) rfl rfl) ?_
            refine xp_pure (i := 51) rfl (by kernel_rfl) (by kernel_rfl) rfl rfl rfl (pv_indexAddr_a rfl rfl rfl (by omega)) ?_
            refine xp_light (i := 52) rfl (by kernel_rfl) (by kernel_rfl) rfl rfl rfl (lv_load (v := .int _ _) rfl rfl (ld_blk m0_0 rfl)) ?_
            refine xp_pure (i := 53) rfl (by kernel_rfl) (by kernel_rfl) rfl rfl rfl (pv_indexAddr_a rfl rfl rfl (by omega)) ?_
            refine xp_light (i := 54) rfl (by kernel_rfl) (by kernel_rfl) rfl rfl rfl (lv_load (v := .int _ _) rfl rfl (ld_blk m0_0 rfl)) ?_
            refine xp_pure (i := 55) rfl (by kernel_rfl) (by kernel_rfl) rfl rfl rfl (pv_indexAddr_a rfl rfl rfl (by omega)) ?_
            refine xp_light (i := 56) rfl (by kernel_rfl) (by kernel_rfl) rfl rfl rfl (lv_load (v := .int _ _) rfl rfl (ld_blk m0_0 rfl)) ?_
            refine xp_pure (i := 58) rfl (by kernel_rfl) (by kernel_rfl) rfl rfl rfl (pv_move (v := .slice _ _ _) rfl rfl) ?_
            refine xp_pure (i := 59) rfl (by kernel_rfl) (by kernel_rfl) rfl rfl rfl (pv_indexAddr_a rfl rfl rfl (by omega)) ?_
            refine xp_light (i := 60) rfl (by kernel_rfl) (by kernel_rfl) rfl rfl rfl (lv_load (v := .int _ _) rfl rfl (ld_blk m0_0 rfl)) ?_
            refine xp_pure (i := 61) rfl (by kernel_rfl) (by kernel_rfl) rfl rfl rfl (pv_indexAddr_a rfl rfl rfl (by omega)) ?_
            refine xp_light (i := 62) rfl (by kernel_rfl) (by kernel_rfl) rfl rfl rfl (lv_load (v := .int _ _) rfl rfl (ld_blk m0_0 rfl)) ?_
            refine xp_pure (i := 63) rfl (by kernel_rfl) (by kernel_rfl) rfl rfl rfl (pv_indexAddr_a rfl rfl rfl (by omega)) ?_
            refine xp_light (i := 64) rfl (by kernel_rfl) (by kernel_rfl) rfl rfl rfl (lv_load (v := .int _ _) rfl rfl (ld_blk m0_0 rfl)) ?_
            refine xp_heavy (i := 57) (by kernel_rfl) ?_
            refine xph_val rfl rfl rfl rfl (hv_call (g := 19) rfl rfl (gWho hg hgo n0 n2 n3) rfl) (pk (by kernel_rfl) (pk (by kernel_rfl) (pk (by kernel_rfl) (pd (by kernel_rfl) (pd (by kernel_rfl) (pd (by kernel_rfl) pn)))))) ?_
            rintro v9_57 H9_57 ⟨a9_57, c9_57, rfl, hI9_57, hE9_57⟩
            have m0_0 := m0_0.ext hE9_57
            have hX := hX.trans hE9_57
            have hg := hg.ext hE9_57
            have hQ := hQ.ext hE9_57
            refine ⟨(okc (lv_load (v := .int _ _) rfl rfl (ld_blk m0_0 rfl)) (okc (lv_load (v := .int _ _) rfl rfl (ld_blk m0_0 rfl)) (okc (lv_load (v := .int _ _) rfl rfl (ld_blk m0_0 rfl)) okn))), ?_⟩
            refine xp_heavy (i := 65) (by kernel_rfl) ?_
            refine xph_val rfl rfl rfl rfl (hv_call (g := 20) rfl rfl (whoM hlx hQ hgo n0 n2 n3) rfl) (pd (by kernel_rfl) (pd (by kernel_rfl) (pd (by kernel_rfl) pn))) ?_
            rintro v9_65 H9_65 ⟨a9_65, c9_65, rfl, hI9_65, hE9_65⟩
            have m0_0 := m0_0.ext hE9_65
            have hX := hX.trans hE9_65
            have hI9_57 := hI9_57.ext hE9_65
            refine ⟨okn, ?_⟩
            refine xp_heavy (i := 66) (by kernel_rfl) ?_
            refine xph_val rfl rfl rfl rfl (hv_call (g := 18) rfl rfl (iSame hI9_57 hI9_65 (by have := whoI_len (mX D) n0 n2 n3 16; omega)) rfl) pn ?_
            rintro v9_66 H9_66 ⟨r9_66, rfl, hb9_66, rfl⟩
            obtain rfl : r9_66 = true := hb9_66.2 rfl
            refine ⟨okn, ?_⟩
            refine xp_pure (i := 67) rfl (by kernel_rfl) (by kernel_rfl) rfl rfl rfl (pv_pick_t (v := .bool _) rfl rfl rfl) ?_
            refine xp_pure (i := 68) rfl (by kernel_rfl) (by kernel_rfl) rfl rfl rfl (pv_move (v := .bool _) rfl rfl) ?_
            refine xp_heavy (i := 69) (by kernel_rfl) ?_
            refine xph_val rfl rfl rfl rfl (hv_call (g := 8) rfl rfl (c9) rfl) pn ?_
            rintro v9_69 H9_69 ⟨rfl, hE9_69⟩
            have m0_0 := m0_0.ext hE9_69
            have hX := hX.trans hE9_69
            refine ⟨okn, ?_⟩
            refine xp_pure (i := 70) rfl (by kernel_rfl) (by kernel_rfl) rfl rfl rfl (pv_pick_t (v := .bool _) rfl rfl rfl) ?_
            refine xp_pure (i := 71) rfl (by kernel_rfl) (by kernel_rfl) rfl rfl rfl (pv_assign (v := .bool _) rfl rfl) ?_
            refine xp_done (by kernel_rfl) ?_
            refine xthen_normal ?_
            refine xc_ret ?_
            refine fin_ret (res1 (v := .bool _) rfl rfl) ?_
            exact ⟨rfl, hX⟩
          · exact absurd rfl h9_20
        · exact absurd rfl h7_1
      · exact absurd rfl h5_2
    · skip
      refine xl_pure rfl rfl rfl (pv_move (v := .tuple _) rfl rfl) ?_
      refine xl_pure rfl rfl rfl (pv_extract (v := .pointer _) rfl rfl rfl) ?_
      refine xl_pure rfl rfl rfl (pv_extract (v := .int _ _) rfl rfl rfl) ?_
      refine xl_pure rfl rfl rfl (pv_assign (v := .pointer _) rfl rfl) ?_
      refine xl_pure rfl rfl rfl (pv_assign (v := .int _ _) rfl rfl) ?_
      refine xl_nil ?_
      refine xthen_normal ?_
      refine xc_seq ?_
      refine xc_region ?_
      refine xl_pure rfl rfl rfl (pv_move (v := .slice _ _ _) rfl rfl) ?_
      refine xl_heavy rfl rfl rfl (hv_call (g := 11) rfl rfl (rLoad ((hDh H.size (Nat.le_refl _)).ext hX) (fun k hk => by have := hf2 k hk; omega) (by omega)) rfl) ?_
      rintro v4_1 H4_1 ⟨e4_1, hl4_1, hv4_1, rfl⟩
      have he4_1 := hl4_1.uniq hl3_1
      rw [he4_1] at hv4_1
      obtain rfl : v4_1 = .tuple #[.slice none 0 0, .int .i64 e3_1] := by rcases hv4_1 with ⟨h, _⟩ | ⟨_, h⟩; exact absurd h hne; exact h
      refine xl_pure rfl rfl rfl (pv_move (v := .tuple _) rfl rfl) ?_
      refine xl_pure rfl rfl rfl (pv_extract (v := .slice _ _ _) rfl rfl rfl) ?_
      refine xl_pure rfl rfl rfl (pv_extract (v := .int _ _) rfl rfl rfl) ?_
      refine xl_pure rfl rfl rfl (pv_assign (v := .slice _ _ _) rfl rfl) ?_
      refine xl_pure rfl rfl rfl (pv_assign (v := .int _ _) rfl rfl) ?_
      refine xl_nil ?_
      refine xthen_normal ?_
      refine xc_seq ?_
      refine xc_seq ?_
      refine xc_region ?_
      refine xl_pure rfl rfl rfl (pv_move (v := .int _ _) rfl rfl) ?_
      refine xl_pure rfl rfl rfl (pv_move (v := .int _ _) rfl rfl) ?_
      refine xl_ndec rfl rfl rfl (pv_neq rfl rfl rfl) (fun h5_2 => ?_) (fun h5_2 => ?_)
      · skip
        refine xl_nil ?_
        refine xthen_normal ?_
        refine xc_cond_f rfl ?_
        refine xc_skip ?_
        refine xthen_normal ?_
        refine xc_seq ?_
        refine xc_seq ?_
        refine xc_region ?_
        refine xl_pure rfl rfl rfl (pv_move (v := .int _ _) rfl rfl) ?_
        refine xl_ndec rfl rfl rfl (pv_neq rfl rfl rfl) (fun h7_1 => ?_) (fun h7_1 => ?_)
        · exact absurd h7_1 hne
        · skip
          refine xl_nil ?_
          refine xthen_normal ?_
          refine xc_cond_t rfl ?_
          refine xc_seq ?_
          refine xc_region ?_
          refine xl_pure rfl rfl rfl (pv_indexAddr_a rfl rfl rfl (by omega)) ?_
          refine xl_light rfl rfl rfl (lv_load (v := .int _ _) rfl rfl (ld_blk m0_0 rfl)) ?_
          refine xl_pure rfl rfl rfl (pv_indexAddr_a rfl rfl rfl (by omega)) ?_
          refine xl_light rfl rfl rfl (lv_load (v := .int _ _) rfl rfl (ld_blk m0_0 rfl)) ?_
          refine xl_pure rfl rfl rfl (pv_indexAddr_a rfl rfl rfl (by omega)) ?_
          refine xl_light rfl rfl rfl (lv_load (v := .int _ _) rfl rfl (ld_blk m0_0 rfl)) ?_
          refine xl_pure rfl rfl rfl (pv_indexAddr_a rfl rfl rfl (by omega)) ?_
          refine xl_light rfl rfl rfl (lv_load (v := .int _ _) rfl rfl (ld_blk m0_0 rfl)) ?_
          refine xl_heavy rfl rfl rfl (hv_call (g := 12) rfl rfl (gMayn n0 n1 n2 n3) rfl) ?_
          rintro v8_8 H8_8 ⟨rfl, hE8_8⟩
          have m0_0 := m0_0.ext hE8_8
          have hX := hX.trans hE8_8
          refine xl_dec rfl rfl rfl (pv_eql rfl rfl rfl) (fun h8_9 => ?_) (fun h8_9 => ?_)
          · skip
            refine xl_pure rfl rfl rfl (pv_move (v := .bool _) rfl rfl) ?_
            refine xl_heavy rfl rfl rfl (hv_call (g := 8) rfl rfl (c9) rfl) ?_
            rintro v8_11 H8_11 ⟨rfl, hE8_11⟩
            have m0_0 := m0_0.ext hE8_11
            have hX := hX.trans hE8_11
            refine xl_pure rfl rfl rfl (pv_pick_t (v := .bool _) rfl rfl rfl) ?_
            refine xl_pure rfl rfl rfl (pv_assign (v := .bool _) rfl rfl) ?_
            refine xl_nil ?_
            refine xthen_normal ?_
            refine xc_ret ?_
            refine xthen_ret ?_
            refine fin_ret (res1 (v := .bool _) rfl rfl) ?_
            exact ⟨rfl, hX⟩
          · exact absurd rfl h8_9
      · exact absurd rfl h5_2
end Go.XG
