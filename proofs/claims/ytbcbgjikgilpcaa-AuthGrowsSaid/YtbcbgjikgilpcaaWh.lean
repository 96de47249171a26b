/-
  Walks of the seat's functions over the logic XG: each function, what it computes. Printed by a program out of wip/walks.py.
-/
import Derived.Test.YtbcbgjikgilpcaaI
import Derived.Test.YtbcbgjikgilpcaaM
import Derived.Test.YtbcbgjikgilpcaaGc
import Derived.Test.YtbcbgjikgilpcaaWa
import Derived.Test.YtbcbgjikgilpcaaWb
import Derived.Test.YtbcbgjikgilpcaaWc
import Derived.Test.YtbcbgjikgilpcaaWd
import Derived.Test.YtbcbgjikgilpcaaWe
import Derived.Test.YtbcbgjikgilpcaaWf
import Derived.Test.YtbcbgjikgilpcaaWg
namespace Go.XG
open Go.Proofs
set_option maxRecDepth 4000
set_option maxHeartbeats 4000000
theorem gExists {O : Outer} {H : Heap} {bp B : Nat} {X : List (List (List Int))} (hg : GAt H bp B X) (hG : GOk X) (ch o : Int) :
    FnC Try.prog 14 #[.pointer (some ⟨bp, 0, none⟩), .int .i64 ch, .int .i64 o] O H (fun v H' => ((exi X ch o ∧ v = .bool true ∨ ¬ exi X ch o ∧ v = .bool false) ∧ Ext H H')) := by
  refine fn_enter (A := [.pointer (some ⟨bp, 0, none⟩), .int .i64 ch, .int .i64 o]) Try.func14 rfl rfl ?_
  have hX := Ext.refl H
  refine xc_seq ?_
  refine xc_region ?_
  refine xl_pure rfl rfl rfl (pv_assign (v := .bool _) rfl rfl) ?_
  refine xl_nil ?_
  refine xthen_normal ?_
  refine xc_seq ?_
  refine xc_seq ?_
  refine xc_region ?_
  refine xl_pure rfl rfl rfl (pv_move (v := .int _ _) rfl rfl) ?_
  refine xl_heavy rfl rfl rfl (hv_call (g := 33) rfl rfl (gIsChars ch) rfl) ?_
  rintro v1_1 H1_1 ⟨hv1_1, rfl⟩
  rcases hv1_1 with ⟨hi1_1, rfl⟩ | ⟨hi1_1, rfl⟩
  · skip
    refine xl_pure rfl rfl rfl (pv_not rfl rfl) ?_
    refine xl_nil ?_
    refine xthen_normal ?_
    refine xc_cond_f rfl ?_
    refine xc_skip ?_
    refine xthen_normal ?_
    refine xc_seq ?_
    refine xc_seq ?_
    refine xc_region ?_
    refine xl_pure rfl rfl rfl (pv_move (v := .int _ _) rfl rfl) ?_
    refine xl_dec rfl rfl rfl (pv_geq rfl rfl rfl) (fun h3_1 => ?_) (fun h3_1 => ?_)
    · skip
      refine xl_nil ?_
      refine xthen_normal ?_
      refine xc_cond_t rfl ?_
      refine xc_seq ?_
      refine xc_region ?_
      refine xl_pure rfl rfl rfl (pv_move (v := .pointer _) rfl rfl) ?_
      refine xl_pure rfl rfl rfl (pv_move (v := .int _ _) rfl rfl) ?_
      refine xl_heavy rfl rfl rfl (hv_call (g := 38) rfl rfl (gMembersG (hg.ext hX) hG o) rfl) ?_
      rintro v4_2 H4_2 ⟨hv4_2, hE4_2⟩
      have hX := hX.trans hE4_2
      rcases hv4_2 with ⟨hi4_2, aM, cM, rfl, hM1⟩ | ⟨hi4_2, rfl⟩
      · skip
        refine xl_pure rfl rfl rfl (pv_move (v := .tuple _) rfl rfl) ?_
        refine xl_pure rfl rfl rfl (pv_extract (v := .slice _ _ _) rfl rfl rfl) ?_
        refine xl_pure rfl rfl rfl (pv_extract (v := .int _ _) rfl rfl rfl) ?_
        refine xl_pure rfl rfl rfl (pv_assign (v := .slice _ _ _) rfl rfl) ?_
        refine xl_pure rfl rfl rfl (pv_assign (v := .int _ _) rfl rfl) ?_
        refine xl_nil ?_
        refine xthen_normal ?_
        refine xc_seq ?_
        refine xc_region ?_
        refine xl_pure rfl rfl rfl (pv_move (v := .int _ _) rfl rfl) ?_
        refine xl_dec rfl rfl rfl (pv_eql rfl rfl rfl) (fun h5_1 => ?_) (fun h5_1 => ?_)
        · skip
          refine xl_pure rfl rfl rfl (pv_assign (v := .bool _) rfl rfl) ?_
          refine xl_nil ?_
          refine xthen_normal ?_
          refine xc_ret ?_
          refine xthen_ret ?_
          refine fin_ret (res1 (v := .bool _) rfl rfl) ?_
          first
            | exact ⟨.inr ⟨fun h => hi1_1 h.1, rfl⟩, hX⟩
            | exact ⟨.inl ⟨⟨hi1_1, .inr hi4_2⟩, rfl⟩, hX⟩
            | exact ⟨.inr ⟨fun h => h.2.elim (fun h2 => by have := hi1_1.2; omega) hi4_2, rfl⟩, hX⟩
            | exact ⟨.inl ⟨⟨hi1_1, .inl ⟨by omega, by omega⟩⟩, rfl⟩, hX⟩
            | exact ⟨.inr ⟨fun h => h.2.elim (fun h2 => by omega) (fun h2 => by have := h2.1; omega), rfl⟩, hX⟩
        · exact absurd (by decide) h5_1
      · skip
        refine xl_pure rfl rfl rfl (pv_move (v := .tuple _) rfl rfl) ?_
        refine xl_pure rfl rfl rfl (pv_extract (v := .slice _ _ _) rfl rfl rfl) ?_
        refine xl_pure rfl rfl rfl (pv_extract (v := .int _ _) rfl rfl rfl) ?_
        refine xl_pure rfl rfl rfl (pv_assign (v := .slice _ _ _) rfl rfl) ?_
        refine xl_pure rfl rfl rfl (pv_assign (v := .int _ _) rfl rfl) ?_
        refine xl_nil ?_
        refine xthen_normal ?_
        refine xc_seq ?_
        refine xc_region ?_
        refine xl_pure rfl rfl rfl (pv_move (v := .int _ _) rfl rfl) ?_
        refine xl_dec rfl rfl rfl (pv_eql rfl rfl rfl) (fun h5_1 => ?_) (fun h5_1 => ?_)
        · exact absurd h5_1 (by decide)
        · skip
          refine xl_pure rfl rfl rfl (pv_assign (v := .bool _) rfl rfl) ?_
          refine xl_nil ?_
          refine xthen_normal ?_
          refine xc_ret ?_
          refine xthen_ret ?_
          refine fin_ret (res1 (v := .bool _) rfl rfl) ?_
          first
            | exact ⟨.inr ⟨fun h => hi1_1 h.1, rfl⟩, hX⟩
            | exact ⟨.inl ⟨⟨hi1_1, .inr hi4_2⟩, rfl⟩, hX⟩
            | exact ⟨.inr ⟨fun h => h.2.elim (fun h2 => by have := hi1_1.2; omega) hi4_2, rfl⟩, hX⟩
            | exact ⟨.inl ⟨⟨hi1_1, .inl ⟨by omega, by omega⟩⟩, rfl⟩, hX⟩
            | exact ⟨.inr ⟨fun h => h.2.elim (fun h2 => by omega) (fun h2 => by have := h2.1; omega), rfl⟩, hX⟩
    · skip
      refine xl_nil ?_
      refine xthen_normal ?_
      refine xc_cond_f rfl ?_
      refine xc_skip ?_
      refine xthen_normal ?_
      refine xc_seq ?_
      refine xc_region ?_
      refine xl_pure rfl rfl rfl (pv_move (v := .int _ _) rfl rfl) ?_
      refine xl_dec rfl rfl rfl (pv_geq rfl rfl rfl) (fun h6_1 => ?_) (fun h6_1 => ?_)
      · skip
        refine xl_pure rfl rfl rfl (pv_move (v := .bool _) rfl rfl) ?_
        refine xl_pure rfl rfl rfl (pv_move (v := .int _ _) rfl rfl) ?_
        refine xl_pure rfl rfl rfl (pv_move (v := .int _ _) rfl rfl) ?_
        refine xl_dec rfl rfl rfl (pv_leq rfl rfl rfl) (fun h6_5 => ?_) (fun h6_5 => ?_)
        · skip
          refine xl_pure rfl rfl rfl (pv_pick_t (v := .bool _) rfl rfl rfl) ?_
          refine xl_pure rfl rfl rfl (pv_assign (v := .bool _) rfl rfl) ?_
          refine xl_nil ?_
          refine xthen_normal ?_
          refine xc_ret ?_
          refine fin_ret (res1 (v := .bool _) rfl rfl) ?_
          first
            | exact ⟨.inr ⟨fun h => hi1_1 h.1, rfl⟩, hX⟩
            | exact ⟨.inl ⟨⟨hi1_1, .inr hi4_2⟩, rfl⟩, hX⟩
            | exact ⟨.inr ⟨fun h => h.2.elim (fun h2 => by have := hi1_1.2; omega) hi4_2, rfl⟩, hX⟩
            | exact ⟨.inl ⟨⟨hi1_1, .inl ⟨by omega, by omega⟩⟩, rfl⟩, hX⟩
            | exact ⟨.inr ⟨fun h => h.2.elim (fun h2 => by omega) (fun h2 => by have := h2.1; omega), rfl⟩, hX⟩
        · skip
          refine xl_pure rfl rfl rfl (pv_pick_t (v := .bool _) rfl rfl rfl) ?_
          refine xl_pure rfl rfl rfl (pv_assign (v := .bool _) rfl rfl) ?_
          refine xl_nil ?_
          refine xthen_normal ?_
          refine xc_ret ?_
          refine fin_ret (res1 (v := .bool _) rfl rfl) ?_
          first
            | exact ⟨.inr ⟨fun h => hi1_1 h.1, rfl⟩, hX⟩
            | exact ⟨.inl ⟨⟨hi1_1, .inr hi4_2⟩, rfl⟩, hX⟩
            | exact ⟨.inr ⟨fun h => h.2.elim (fun h2 => by have := hi1_1.2; omega) hi4_2, rfl⟩, hX⟩
            | exact ⟨.inl ⟨⟨hi1_1, .inl ⟨by omega, by omega⟩⟩, rfl⟩, hX⟩
            | exact ⟨.inr ⟨fun h => h.2.elim (fun h2 => by omega) (fun h2 => by have := h2.1; omega), rfl⟩, hX⟩
      · skip
        refine xl_pure rfl rfl rfl (pv_move (v := .bool _) rfl rfl) ?_
        refine xl_skip rfl rfl rfl ?_
        refine xl_skip rfl rfl rfl ?_
        refine xl_skip rfl rfl rfl ?_
        refine xl_pure rfl rfl rfl (pv_pick_f (v := .bool _) rfl rfl rfl) ?_
        refine xl_pure rfl rfl rfl (pv_assign (v := .bool _) rfl rfl) ?_
        refine xl_nil ?_
        refine xthen_normal ?_
        refine xc_ret ?_
        refine fin_ret (res1 (v := .bool _) rfl rfl) ?_
        first
          | exact ⟨.inr ⟨fun h => hi1_1 h.1, rfl⟩, hX⟩
          | exact ⟨.inl ⟨⟨hi1_1, .inr hi4_2⟩, rfl⟩, hX⟩
          | exact ⟨.inr ⟨fun h => h.2.elim (fun h2 => by have := hi1_1.2; omega) hi4_2, rfl⟩, hX⟩
          | exact ⟨.inl ⟨⟨hi1_1, .inl ⟨by omega, by omega⟩⟩, rfl⟩, hX⟩
          | exact ⟨.inr ⟨fun h => h.2.elim (fun h2 => by omega) (fun h2 => by have := h2.1; omega), rfl⟩, hX⟩
  · skip
    refine xl_pure rfl rfl rfl (pv_not rfl rfl) ?_
    refine xl_nil ?_
    refine xthen_normal ?_
    refine xc_cond_t rfl ?_
    refine xc_seq ?_
    refine xc_region ?_
    refine xl_pure rfl rfl rfl (pv_assign (v := .bool _) rfl rfl) ?_
    refine xl_nil ?_
    refine xthen_normal ?_
    refine xc_ret ?_
    refine xthen_ret ?_
    refine fin_ret (res1 (v := .bool _) rfl rfl) ?_
    first
      | exact ⟨.inr ⟨fun h => hi1_1 h.1, rfl⟩, hX⟩
      | exact ⟨.inl ⟨⟨hi1_1, .inr hi4_2⟩, rfl⟩, hX⟩
      | exact ⟨.inr ⟨fun h => h.2.elim (fun h2 => by have := hi1_1.2; omega) hi4_2, rfl⟩, hX⟩
      | exact ⟨.inl ⟨⟨hi1_1, .inl ⟨by omega, by omega⟩⟩, rfl⟩, hX⟩
      | exact ⟨.inr ⟨fun h => h.2.elim (fun h2 => by omega) (fun h2 => by have := h2.1; omega), rfl⟩, hX⟩

theorem rExists {O : Outer} {H : Heap} {a : Option Addr} {c B0 : Nat} {X : List (List (List Int))} (hD : DK H B0 a (tg X)) (hG : GOk X) (ch o : Int) :
    FnC Try.prog 15 #[.slice a X.length c, .int .i64 ch, .int .i64 o] O H (fun v H' => ((exi X ch o ∧ v = .bool true ∨ ¬ exi X ch o ∧ v = .bool false) ∧ H = H')) := by
  refine fn_enter (A := [.slice a X.length c, .int .i64 ch, .int .i64 o]) Try.func15 rfl rfl ?_
  have hX := Ext.refl H
  refine xc_seq ?_
  refine xc_region ?_
  refine xl_pure rfl rfl rfl (pv_assign (v := .bool _) rfl rfl) ?_
  refine xl_nil ?_
  refine xthen_normal ?_
  refine xc_seq ?_
  refine xc_region ?_
  refine xl_pure rfl rfl rfl (pv_move (v := .slice _ _ _) rfl rfl) ?_
  refine xl_pure rfl rfl rfl (pv_move (v := .int _ _) rfl rfl) ?_
  refine xl_heavy rfl rfl rfl (hv_call (g := 39) rfl rfl (rMembers hD hG o) rfl) ?_
  rintro v1_2 H1_2 ⟨hv1_2, rfl⟩
  rcases hv1_2 with ⟨hi1_2, aM, cM, rfl, hM1⟩ | ⟨hi1_2, rfl⟩
  · skip
    refine xl_pure rfl rfl rfl (pv_move (v := .tuple _) rfl rfl) ?_
    refine xl_pure rfl rfl rfl (pv_extract (v := .slice _ _ _) rfl rfl rfl) ?_
    refine xl_pure rfl rfl rfl (pv_extract (v := .int _ _) rfl rfl rfl) ?_
    refine xl_pure rfl rfl rfl (pv_assign (v := .slice _ _ _) rfl rfl) ?_
    refine xl_pure rfl rfl rfl (pv_assign (v := .int _ _) rfl rfl) ?_
    refine xl_nil ?_
    refine xthen_normal ?_
    refine xc_seq ?_
    refine xc_region ?_
    refine xl_pure rfl rfl rfl (pv_move (v := .int _ _) rfl rfl) ?_
    refine xl_dec rfl rfl rfl (pv_geq rfl rfl rfl) (fun h2_1 => ?_) (fun h2_1 => ?_)
    · skip
      refine xl_pure rfl rfl rfl (pv_move (v := .bool _) rfl rfl) ?_
      refine xl_pure rfl rfl rfl (pv_move (v := .int _ _) rfl rfl) ?_
      refine xl_dec rfl rfl rfl (pv_leq rfl rfl rfl) (fun h2_4 => ?_) (fun h2_4 => ?_)
      · skip
        refine xl_pure rfl rfl rfl (pv_pick_t (v := .bool _) rfl rfl rfl) ?_
        refine xl_pure rfl rfl rfl (pv_move (v := .bool _) rfl rfl) ?_
        refine xl_pure rfl rfl rfl (pv_move (v := .int _ _) rfl rfl) ?_
        refine xl_dec rfl rfl rfl (pv_geq rfl rfl rfl) (fun h2_8 => ?_) (fun h2_8 => ?_)
        · skip
          refine xl_pure rfl rfl rfl (pv_move (v := .bool _) rfl rfl) ?_
          refine xl_pure rfl rfl rfl (pv_move (v := .int _ _) rfl rfl) ?_
          refine xl_pure rfl rfl rfl (pv_move (v := .int _ _) rfl rfl) ?_
          refine xl_dec rfl rfl rfl (pv_leq rfl rfl rfl) (fun h2_12 => ?_) (fun h2_12 => ?_)
          · skip
            refine xl_pure rfl rfl rfl (pv_pick_t (v := .bool _) rfl rfl rfl) ?_
            refine xl_pure rfl rfl rfl (pv_move (v := .bool _) rfl rfl) ?_
            refine xl_skip rfl rfl rfl ?_
            refine xl_skip rfl rfl rfl ?_
            refine xl_pure rfl rfl rfl (pv_pick_t (v := .bool _) rfl rfl rfl) ?_
            refine xl_pure rfl rfl rfl (pv_pick_t (v := .bool _) rfl rfl rfl) ?_
            refine xl_pure rfl rfl rfl (pv_assign (v := .bool _) rfl rfl) ?_
            refine xl_nil ?_
            refine xthen_normal ?_
            refine xc_ret ?_
            refine fin_ret (res1 (v := .bool _) rfl rfl) ?_
            first
              | exact ⟨.inl ⟨⟨⟨by omega, by omega⟩, .inl ⟨by omega, by omega⟩⟩, rfl⟩, rfl⟩
              | exact ⟨.inl ⟨⟨⟨by omega, by omega⟩, .inr hi1_2⟩, rfl⟩, rfl⟩
              | exact ⟨.inr ⟨fun h => (by have h1 := h.1.1; have h2 := h.1.2; rcases h.2 with h3 | h3; (have h4 := h3.1; have h5 := h3.2; omega); exact absurd h3 hi1_2), rfl⟩, rfl⟩
              | exact ⟨.inr ⟨fun h => (by have h1 := h.1.1; have h2 := h.1.2; omega), rfl⟩, rfl⟩
          · skip
            refine xl_pure rfl rfl rfl (pv_pick_t (v := .bool _) rfl rfl rfl) ?_
            refine xl_pure rfl rfl rfl (pv_move (v := .bool _) rfl rfl) ?_
            refine xl_pure rfl rfl rfl (pv_move (v := .int _ _) rfl rfl) ?_
            refine xl_dec rfl rfl rfl (pv_eql rfl rfl rfl) (fun h2_16 => ?_) (fun h2_16 => ?_)
            · skip
              refine xl_pure rfl rfl rfl (pv_pick_f (v := .bool _) rfl rfl rfl) ?_
              refine xl_pure rfl rfl rfl (pv_pick_t (v := .bool _) rfl rfl rfl) ?_
              refine xl_pure rfl rfl rfl (pv_assign (v := .bool _) rfl rfl) ?_
              refine xl_nil ?_
              refine xthen_normal ?_
              refine xc_ret ?_
              refine fin_ret (res1 (v := .bool _) rfl rfl) ?_
              first
                | exact ⟨.inl ⟨⟨⟨by omega, by omega⟩, .inl ⟨by omega, by omega⟩⟩, rfl⟩, rfl⟩
                | exact ⟨.inl ⟨⟨⟨by omega, by omega⟩, .inr hi1_2⟩, rfl⟩, rfl⟩
                | exact ⟨.inr ⟨fun h => (by have h1 := h.1.1; have h2 := h.1.2; rcases h.2 with h3 | h3; (have h4 := h3.1; have h5 := h3.2; omega); exact absurd h3 hi1_2), rfl⟩, rfl⟩
                | exact ⟨.inr ⟨fun h => (by have h1 := h.1.1; have h2 := h.1.2; omega), rfl⟩, rfl⟩
            · exact absurd (by decide) h2_16
        · skip
          refine xl_pure rfl rfl rfl (pv_move (v := .bool _) rfl rfl) ?_
          refine xl_skip rfl rfl rfl ?_
          refine xl_skip rfl rfl rfl ?_
          refine xl_skip rfl rfl rfl ?_
          refine xl_pure rfl rfl rfl (pv_pick_f (v := .bool _) rfl rfl rfl) ?_
          refine xl_pure rfl rfl rfl (pv_move (v := .bool _) rfl rfl) ?_
          refine xl_pure rfl rfl rfl (pv_move (v := .int _ _) rfl rfl) ?_
          refine xl_dec rfl rfl rfl (pv_eql rfl rfl rfl) (fun h2_16 => ?_) (fun h2_16 => ?_)
          · skip
            refine xl_pure rfl rfl rfl (pv_pick_f (v := .bool _) rfl rfl rfl) ?_
            refine xl_pure rfl rfl rfl (pv_pick_t (v := .bool _) rfl rfl rfl) ?_
            refine xl_pure rfl rfl rfl (pv_assign (v := .bool _) rfl rfl) ?_
            refine xl_nil ?_
            refine xthen_normal ?_
            refine xc_ret ?_
            refine fin_ret (res1 (v := .bool _) rfl rfl) ?_
            first
              | exact ⟨.inl ⟨⟨⟨by omega, by omega⟩, .inl ⟨by omega, by omega⟩⟩, rfl⟩, rfl⟩
              | exact ⟨.inl ⟨⟨⟨by omega, by omega⟩, .inr hi1_2⟩, rfl⟩, rfl⟩
              | exact ⟨.inr ⟨fun h => (by have h1 := h.1.1; have h2 := h.1.2; rcases h.2 with h3 | h3; (have h4 := h3.1; have h5 := h3.2; omega); exact absurd h3 hi1_2), rfl⟩, rfl⟩
              | exact ⟨.inr ⟨fun h => (by have h1 := h.1.1; have h2 := h.1.2; omega), rfl⟩, rfl⟩
          · exact absurd (by decide) h2_16
      · skip
        refine xl_pure rfl rfl rfl (pv_pick_t (v := .bool _) rfl rfl rfl) ?_
        refine xl_pure rfl rfl rfl (pv_move (v := .bool _) rfl rfl) ?_
        refine xl_skip rfl rfl rfl ?_
        refine xl_skip rfl rfl rfl ?_
        refine xl_skip rfl rfl rfl ?_
        refine xl_skip rfl rfl rfl ?_
        refine xl_skip rfl rfl rfl ?_
        refine xl_skip rfl rfl rfl ?_
        refine xl_skip rfl rfl rfl ?_
        refine xl_skip rfl rfl rfl ?_
        refine xl_skip rfl rfl rfl ?_
        refine xl_skip rfl rfl rfl ?_
        refine xl_skip rfl rfl rfl ?_
        refine xl_pure rfl rfl rfl (pv_pick_f (v := .bool _) rfl rfl rfl) ?_
        refine xl_pure rfl rfl rfl (pv_assign (v := .bool _) rfl rfl) ?_
        refine xl_nil ?_
        refine xthen_normal ?_
        refine xc_ret ?_
        refine fin_ret (res1 (v := .bool _) rfl rfl) ?_
        first
          | exact ⟨.inl ⟨⟨⟨by omega, by omega⟩, .inl ⟨by omega, by omega⟩⟩, rfl⟩, rfl⟩
          | exact ⟨.inl ⟨⟨⟨by omega, by omega⟩, .inr hi1_2⟩, rfl⟩, rfl⟩
          | exact ⟨.inr ⟨fun h => (by have h1 := h.1.1; have h2 := h.1.2; rcases h.2 with h3 | h3; (have h4 := h3.1; have h5 := h3.2; omega); exact absurd h3 hi1_2), rfl⟩, rfl⟩
          | exact ⟨.inr ⟨fun h => (by have h1 := h.1.1; have h2 := h.1.2; omega), rfl⟩, rfl⟩
    · skip
      refine xl_pure rfl rfl rfl (pv_move (v := .bool _) rfl rfl) ?_
      refine xl_skip rfl rfl rfl ?_
      refine xl_skip rfl rfl rfl ?_
      refine xl_pure rfl rfl rfl (pv_pick_f (v := .bool _) rfl rfl rfl) ?_
      refine xl_pure rfl rfl rfl (pv_move (v := .bool _) rfl rfl) ?_
      refine xl_skip rfl rfl rfl ?_
      refine xl_skip rfl rfl rfl ?_
      refine xl_skip rfl rfl rfl ?_
      refine xl_skip rfl rfl rfl ?_
      refine xl_skip rfl rfl rfl ?_
      refine xl_skip rfl rfl rfl ?_
      refine xl_skip rfl rfl rfl ?_
      refine xl_skip rfl rfl rfl ?_
      refine xl_skip rfl rfl rfl ?_
      refine xl_skip rfl rfl rfl ?_
      refine xl_skip rfl rfl rfl ?_
      refine xl_pure rfl rfl rfl (pv_pick_f (v := .bool _) rfl rfl rfl) ?_
      refine xl_pure rfl rfl rfl (pv_assign (v := .bool _) rfl rfl) ?_
      refine xl_nil ?_
      refine xthen_normal ?_
      refine xc_ret ?_
      refine fin_ret (res1 (v := .bool _) rfl rfl) ?_
      first
        | exact ⟨.inl ⟨⟨⟨by omega, by omega⟩, .inl ⟨by omega, by omega⟩⟩, rfl⟩, rfl⟩
        | exact ⟨.inl ⟨⟨⟨by omega, by omega⟩, .inr hi1_2⟩, rfl⟩, rfl⟩
        | exact ⟨.inr ⟨fun h => (by have h1 := h.1.1; have h2 := h.1.2; rcases h.2 with h3 | h3; (have h4 := h3.1; have h5 := h3.2; omega); exact absurd h3 hi1_2), rfl⟩, rfl⟩
        | exact ⟨.inr ⟨fun h => (by have h1 := h.1.1; have h2 := h.1.2; omega), rfl⟩, rfl⟩
  · skip
    refine xl_pure rfl rfl rfl (pv_move (v := .tuple _) rfl rfl) ?_
    refine xl_pure rfl rfl rfl (pv_extract (v := .slice _ _ _) rfl rfl rfl) ?_
    refine xl_pure rfl rfl rfl (pv_extract (v := .int _ _) rfl rfl rfl) ?_
    refine xl_pure rfl rfl rfl (pv_assign (v := .slice _ _ _) rfl rfl) ?_
    refine xl_pure rfl rfl rfl (pv_assign (v := .int _ _) rfl rfl) ?_
    refine xl_nil ?_
    refine xthen_normal ?_
    refine xc_seq ?_
    refine xc_region ?_
    refine xl_pure rfl rfl rfl (pv_move (v := .int _ _) rfl rfl) ?_
    refine xl_dec rfl rfl rfl (pv_geq rfl rfl rfl) (fun h2_1 => ?_) (fun h2_1 => ?_)
    · skip
      refine xl_pure rfl rfl rfl (pv_move (v := .bool _) rfl rfl) ?_
      refine xl_pure rfl rfl rfl (pv_move (v := .int _ _) rfl rfl) ?_
      refine xl_dec rfl rfl rfl (pv_leq rfl rfl rfl) (fun h2_4 => ?_) (fun h2_4 => ?_)
      · skip
        refine xl_pure rfl rfl rfl (pv_pick_t (v := .bool _) rfl rfl rfl) ?_
        refine xl_pure rfl rfl rfl (pv_move (v := .bool _) rfl rfl) ?_
        refine xl_pure rfl rfl rfl (pv_move (v := .int _ _) rfl rfl) ?_
        refine xl_dec rfl rfl rfl (pv_geq rfl rfl rfl) (fun h2_8 => ?_) (fun h2_8 => ?_)
        · skip
          refine xl_pure rfl rfl rfl (pv_move (v := .bool _) rfl rfl) ?_
          refine xl_pure rfl rfl rfl (pv_move (v := .int _ _) rfl rfl) ?_
          refine xl_pure rfl rfl rfl (pv_move (v := .int _ _) rfl rfl) ?_
          refine xl_dec rfl rfl rfl (pv_leq rfl rfl rfl) (fun h2_12 => ?_) (fun h2_12 => ?_)
          · skip
            refine xl_pure rfl rfl rfl (pv_pick_t (v := .bool _) rfl rfl rfl) ?_
            refine xl_pure rfl rfl rfl (pv_move (v := .bool _) rfl rfl) ?_
            refine xl_skip rfl rfl rfl ?_
            refine xl_skip rfl rfl rfl ?_
            refine xl_pure rfl rfl rfl (pv_pick_t (v := .bool _) rfl rfl rfl) ?_
            refine xl_pure rfl rfl rfl (pv_pick_t (v := .bool _) rfl rfl rfl) ?_
            refine xl_pure rfl rfl rfl (pv_assign (v := .bool _) rfl rfl) ?_
            refine xl_nil ?_
            refine xthen_normal ?_
            refine xc_ret ?_
            refine fin_ret (res1 (v := .bool _) rfl rfl) ?_
            first
              | exact ⟨.inl ⟨⟨⟨by omega, by omega⟩, .inl ⟨by omega, by omega⟩⟩, rfl⟩, rfl⟩
              | exact ⟨.inl ⟨⟨⟨by omega, by omega⟩, .inr hi1_2⟩, rfl⟩, rfl⟩
              | exact ⟨.inr ⟨fun h => (by have h1 := h.1.1; have h2 := h.1.2; rcases h.2 with h3 | h3; (have h4 := h3.1; have h5 := h3.2; omega); exact absurd h3 hi1_2), rfl⟩, rfl⟩
              | exact ⟨.inr ⟨fun h => (by have h1 := h.1.1; have h2 := h.1.2; omega), rfl⟩, rfl⟩
          · skip
            refine xl_pure rfl rfl rfl (pv_pick_t (v := .bool _) rfl rfl rfl) ?_
            refine xl_pure rfl rfl rfl (pv_move (v := .bool _) rfl rfl) ?_
            refine xl_pure rfl rfl rfl (pv_move (v := .int _ _) rfl rfl) ?_
            refine xl_dec rfl rfl rfl (pv_eql rfl rfl rfl) (fun h2_16 => ?_) (fun h2_16 => ?_)
            · exact absurd h2_16 (by decide)
            · skip
              refine xl_pure rfl rfl rfl (pv_pick_f (v := .bool _) rfl rfl rfl) ?_
              refine xl_pure rfl rfl rfl (pv_pick_t (v := .bool _) rfl rfl rfl) ?_
              refine xl_pure rfl rfl rfl (pv_assign (v := .bool _) rfl rfl) ?_
              refine xl_nil ?_
              refine xthen_normal ?_
              refine xc_ret ?_
              refine fin_ret (res1 (v := .bool _) rfl rfl) ?_
              first
                | exact ⟨.inl ⟨⟨⟨by omega, by omega⟩, .inl ⟨by omega, by omega⟩⟩, rfl⟩, rfl⟩
                | exact ⟨.inl ⟨⟨⟨by omega, by omega⟩, .inr hi1_2⟩, rfl⟩, rfl⟩
                | exact ⟨.inr ⟨fun h => (by have h1 := h.1.1; have h2 := h.1.2; rcases h.2 with h3 | h3; (have h4 := h3.1; have h5 := h3.2; omega); exact absurd h3 hi1_2), rfl⟩, rfl⟩
                | exact ⟨.inr ⟨fun h => (by have h1 := h.1.1; have h2 := h.1.2; omega), rfl⟩, rfl⟩
        · skip
          refine xl_pure rfl rfl rfl (pv_move (v := .bool _) rfl rfl) ?_
          refine xl_skip rfl rfl rfl ?_
          refine xl_skip rfl rfl rfl ?_
          refine xl_skip rfl rfl rfl ?_
          refine xl_pure rfl rfl rfl (pv_pick_f (v := .bool _) rfl rfl rfl) ?_
          refine xl_pure rfl rfl rfl (pv_move (v := .bool _) rfl rfl) ?_
          refine xl_pure rfl rfl rfl (pv_move (v := .int _ _) rfl rfl) ?_
          refine xl_dec rfl rfl rfl (pv_eql rfl rfl rfl) (fun h2_16 => ?_) (fun h2_16 => ?_)
          · exact absurd h2_16 (by decide)
          · skip
            refine xl_pure rfl rfl rfl (pv_pick_f (v := .bool _) rfl rfl rfl) ?_
            refine xl_pure rfl rfl rfl (pv_pick_t (v := .bool _) rfl rfl rfl) ?_
            refine xl_pure rfl rfl rfl (pv_assign (v := .bool _) rfl rfl) ?_
            refine xl_nil ?_
            refine xthen_normal ?_
            refine xc_ret ?_
            refine fin_ret (res1 (v := .bool _) rfl rfl) ?_
            first
              | exact ⟨.inl ⟨⟨⟨by omega, by omega⟩, .inl ⟨by omega, by omega⟩⟩, rfl⟩, rfl⟩
              | exact ⟨.inl ⟨⟨⟨by omega, by omega⟩, .inr hi1_2⟩, rfl⟩, rfl⟩
              | exact ⟨.inr ⟨fun h => (by have h1 := h.1.1; have h2 := h.1.2; rcases h.2 with h3 | h3; (have h4 := h3.1; have h5 := h3.2; omega); exact absurd h3 hi1_2), rfl⟩, rfl⟩
              | exact ⟨.inr ⟨fun h => (by have h1 := h.1.1; have h2 := h.1.2; omega), rfl⟩, rfl⟩
      · skip
        refine xl_pure rfl rfl rfl (pv_pick_t (v := .bool _) rfl rfl rfl) ?_
        refine xl_pure rfl rfl rfl (pv_move (v := .bool _) rfl rfl) ?_
        refine xl_skip rfl rfl rfl ?_
        refine xl_skip rfl rfl rfl ?_
        refine xl_skip rfl rfl rfl ?_
        refine xl_skip rfl rfl rfl ?_
        refine xl_skip rfl rfl rfl ?_
        refine xl_skip rfl rfl rfl ?_
        refine xl_skip rfl rfl rfl ?_
        refine xl_skip rfl rfl rfl ?_
        refine xl_skip rfl rfl rfl ?_
        refine xl_skip rfl rfl rfl ?_
        refine xl_skip rfl rfl rfl ?_
        refine xl_pure rfl rfl rfl (pv_pick_f (v := .bool _) rfl rfl rfl) ?_
        refine xl_pure rfl rfl rfl (pv_assign (v := .bool _) rfl rfl) ?_
        refine xl_nil ?_
        refine xthen_normal ?_
        refine xc_ret ?_
        refine fin_ret (res1 (v := .bool _) rfl rfl) ?_
        first
          | exact ⟨.inl ⟨⟨⟨by omega, by omega⟩, .inl ⟨by omega, by omega⟩⟩, rfl⟩, rfl⟩
          | exact ⟨.inl ⟨⟨⟨by omega, by omega⟩, .inr hi1_2⟩, rfl⟩, rfl⟩
          | exact ⟨.inr ⟨fun h => (by have h1 := h.1.1; have h2 := h.1.2; rcases h.2 with h3 | h3; (have h4 := h3.1; have h5 := h3.2; omega); exact absurd h3 hi1_2), rfl⟩, rfl⟩
          | exact ⟨.inr ⟨fun h => (by have h1 := h.1.1; have h2 := h.1.2; omega), rfl⟩, rfl⟩
    · skip
      refine xl_pure rfl rfl rfl (pv_move (v := .bool _) rfl rfl) ?_
      refine xl_skip rfl rfl rfl ?_
      refine xl_skip rfl rfl rfl ?_
      refine xl_pure rfl rfl rfl (pv_pick_f (v := .bool _) rfl rfl rfl) ?_
      refine xl_pure rfl rfl rfl (pv_move (v := .bool _) rfl rfl) ?_
      refine xl_skip rfl rfl rfl ?_
      refine xl_skip rfl rfl rfl ?_
      refine xl_skip rfl rfl rfl ?_
      refine xl_skip rfl rfl rfl ?_
      refine xl_skip rfl rfl rfl ?_
      refine xl_skip rfl rfl rfl ?_
      refine xl_skip rfl rfl rfl ?_
      refine xl_skip rfl rfl rfl ?_
      refine xl_skip rfl rfl rfl ?_
      refine xl_skip rfl rfl rfl ?_
      refine xl_skip rfl rfl rfl ?_
      refine xl_pure rfl rfl rfl (pv_pick_f (v := .bool _) rfl rfl rfl) ?_
      refine xl_pure rfl rfl rfl (pv_assign (v := .bool _) rfl rfl) ?_
      refine xl_nil ?_
      refine xthen_normal ?_
      refine xc_ret ?_
      refine fin_ret (res1 (v := .bool _) rfl rfl) ?_
      first
        | exact ⟨.inl ⟨⟨⟨by omega, by omega⟩, .inl ⟨by omega, by omega⟩⟩, rfl⟩, rfl⟩
        | exact ⟨.inl ⟨⟨⟨by omega, by omega⟩, .inr hi1_2⟩, rfl⟩, rfl⟩
        | exact ⟨.inr ⟨fun h => (by have h1 := h.1.1; have h2 := h.1.2; rcases h.2 with h3 | h3; (have h4 := h3.1; have h5 := h3.2; omega); exact absurd h3 hi1_2), rfl⟩, rfl⟩
        | exact ⟨.inr ⟨fun h => (by have h1 := h.1.1; have h2 := h.1.2; omega), rfl⟩, rfl⟩
end Go.XG
