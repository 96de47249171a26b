/-
  Walks of the seat's functions over the logic XG: each function, what it computes. Printed by a program out of wip/walks.py.
-/
import Derived.Test.YtbcbgjikgilpcaaI
import Derived.Test.YtbcbgjikgilpcaaM
import Derived.Test.YtbcbgjikgilpcaaGc
import Derived.Test.YtbcbgjikgilpcaaWa
import Derived.Test.YtbcbgjikgilpcaaWb
import Derived.Test.YtbcbgjikgilpcaaWc
import Derived.Test.YtbcbgjikgilpcaaWd
import Derived.Test.YtbcbgjikgilpcaaWe
import Derived.Test.YtbcbgjikgilpcaaWf
import Derived.Test.YtbcbgjikgilpcaaWg
import Derived.Test.YtbcbgjikgilpcaaWh
namespace Go.XG
open Go.Proofs
set_option maxRecDepth 4000
set_option maxHeartbeats 4000000
theorem gMay {O : Outer} {H : Heap} {bp B : Nat} {X : List (List (List Int))} (hg : GAt H bp B X) (hG : GOk X) (ch who az n : Int) :
    FnC Try.prog 12 #[.pointer (some ⟨bp, 0, none⟩), .int .i64 ch, .int .i64 who, .int .i64 az, .int .i64 n] O H (fun v H' => v = .int .i64 (mayE X ch who az n) ∧ Ext H H') := by
  refine fn_enter (A := [.pointer (some ⟨bp, 0, none⟩), .int .i64 ch, .int .i64 who, .int .i64 az, .int .i64 n]) Try.func12 rfl rfl ?_
  have hX := Ext.refl H
  refine xc_seq ?_
  refine xc_region ?_
  refine xl_pure rfl rfl rfl (pv_assign (v := .int _ _) rfl rfl) ?_
  refine xl_nil ?_
  refine xthen_normal ?_
  refine xc_seq ?_
  refine xc_block ?_
  refine xc_seq ?_
  refine xc_region ?_
  refine xl_pure rfl rfl rfl (pv_move (v := .pointer _) rfl rfl) ?_
  refine xl_pure rfl rfl rfl (pv_eql_pn rfl rfl rfl) ?_
  refine xl_pure rfl rfl rfl (pv_move (v := .bool _) rfl rfl) ?_
  refine xl_pure rfl rfl rfl (pv_move (v := .int _ _) rfl rfl) ?_
  refine xl_heavy rfl rfl rfl (hv_call (g := 33) rfl rfl (gIsChars ch) rfl) ?_
  rintro v1_4 H1_4 ⟨hv1_4, rfl⟩
  rcases hv1_4 with ⟨hi1_4, rfl⟩ | ⟨hi1_4, rfl⟩
  · skip
    refine xl_pure rfl rfl rfl (pv_not rfl rfl) ?_
    refine xl_pure rfl rfl rfl (pv_pick_f (v := .bool _) rfl rfl rfl) ?_
    refine xl_pure rfl rfl rfl (pv_move (v := .bool _) rfl rfl) ?_
    refine xl_pure rfl rfl rfl (pv_move (v := .int _ _) rfl rfl) ?_
    refine xl_heavy rfl rfl rfl (hv_call (g := 27) rfl rfl (gCheck0 n) rfl) ?_
    rintro v1_9 H1_9 ⟨hv1_9, rfl⟩
    rcases hv1_9 with ⟨hi1_9, rfl⟩ | ⟨hi1_9, rfl⟩
    · skip
      refine xl_ndec rfl rfl rfl (pv_neq rfl rfl rfl) (fun h1_10 => ?_) (fun h1_10 => ?_)
      · skip
        refine xl_pure rfl rfl rfl (pv_pick_f (v := .bool _) rfl rfl rfl) ?_
        refine xl_pure rfl rfl rfl (pv_assign (v := .bool _) rfl rfl) ?_
        refine xl_nil ?_
        refine xthen_normal ?_
        refine xc_cond_f rfl ?_
        refine xc_seq ?_
        refine xc_region ?_
        refine xl_pure rfl rfl rfl (pv_move (v := .int _ _) rfl rfl) ?_
        refine xl_dec rfl rfl rfl (pv_lss rfl rfl rfl) (fun h3_1 => ?_) (fun h3_1 => ?_)
        · skip
          refine xl_pure rfl rfl rfl (pv_move (v := .bool _) rfl rfl) ?_
          refine xl_skip rfl rfl rfl ?_
          refine xl_skip rfl rfl rfl ?_
          refine xl_skip rfl rfl rfl ?_
          refine xl_pure rfl rfl rfl (pv_pick_t (v := .bool _) rfl rfl rfl) ?_
          refine xl_pure rfl rfl rfl (pv_move (v := .bool _) rfl rfl) ?_
          refine xl_skip rfl rfl rfl ?_
          refine xl_skip rfl rfl rfl ?_
          refine xl_skip rfl rfl rfl ?_
          refine xl_skip rfl rfl rfl ?_
          refine xl_skip rfl rfl rfl ?_
          refine xl_pure rfl rfl rfl (pv_pick_t (v := .bool _) rfl rfl rfl) ?_
          refine xl_pure rfl rfl rfl (pv_assign (v := .bool _) rfl rfl) ?_
          refine xl_nil ?_
          refine xthen_normal ?_
          refine xc_cond_t rfl ?_
          refine xc_seq ?_
          refine xc_region ?_
          refine xl_pure rfl rfl rfl (pv_assign (v := .int _ _) rfl rfl) ?_
          refine xl_nil ?_
          refine xthen_normal ?_
          refine xc_ret ?_
          refine xblock_ret ?_
          refine xthen_ret ?_
          refine fin_ret (res1 (v := .int _ _) rfl rfl) ?_
          first
            | exact ⟨by rw [may1 (fun h => hi1_4 h.1)], hX⟩
            | exact ⟨by rw [may1 (fun h => hi1_9 h.2)], hX⟩
            | exact ⟨by rw [may3 hi1_4 hi1_9 (.inl (by omega))], hX⟩
            | exact ⟨by rw [may3 hi1_4 hi1_9 (.inr (.inl (by omega)))], hX⟩
            | exact ⟨by rw [may3 hi1_4 hi1_9 (.inr (.inr hi3_11))], hX⟩
            | exact ⟨by rw [may0 hi1_4 hi1_9 (by omega) (by omega) hi3_11 (by omega)], hX⟩
            | exact ⟨by rw [may0' hi1_4 hi1_9 (by omega) (by omega) hi3_11 (by omega) h8_1 hi8_5], hX⟩
            | exact ⟨by rw [may8 hi1_4 hi1_9 (by omega) (by omega) hi3_11 (by omega) (fun h => h8_1 h.1)], hX⟩
            | exact ⟨by rw [may8 hi1_4 hi1_9 (by omega) (by omega) hi3_11 (by omega) (fun h => hi8_5 h.2)], hX⟩
        · skip
          refine xl_pure rfl rfl rfl (pv_move (v := .bool _) rfl rfl) ?_
          refine xl_pure rfl rfl rfl (pv_move (v := .int _ _) rfl rfl) ?_
          refine xl_pure rfl rfl rfl (pv_move (v := .int _ _) rfl rfl) ?_
          refine xl_dec rfl rfl rfl (pv_gtr rfl rfl rfl) (fun h3_5 => ?_) (fun h3_5 => ?_)
          · skip
            refine xl_pure rfl rfl rfl (pv_pick_f (v := .bool _) rfl rfl rfl) ?_
            refine xl_pure rfl rfl rfl (pv_move (v := .bool _) rfl rfl) ?_
            refine xl_skip rfl rfl rfl ?_
            refine xl_skip rfl rfl rfl ?_
            refine xl_skip rfl rfl rfl ?_
            refine xl_skip rfl rfl rfl ?_
            refine xl_skip rfl rfl rfl ?_
            refine xl_pure rfl rfl rfl (pv_pick_t (v := .bool _) rfl rfl rfl) ?_
            refine xl_pure rfl rfl rfl (pv_assign (v := .bool _) rfl rfl) ?_
            refine xl_nil ?_
            refine xthen_normal ?_
            refine xc_cond_t rfl ?_
            refine xc_seq ?_
            refine xc_region ?_
            refine xl_pure rfl rfl rfl (pv_assign (v := .int _ _) rfl rfl) ?_
            refine xl_nil ?_
            refine xthen_normal ?_
            refine xc_ret ?_
            refine xblock_ret ?_
            refine xthen_ret ?_
            refine fin_ret (res1 (v := .int _ _) rfl rfl) ?_
            first
              | exact ⟨by rw [may1 (fun h => hi1_4 h.1)], hX⟩
              | exact ⟨by rw [may1 (fun h => hi1_9 h.2)], hX⟩
              | exact ⟨by rw [may3 hi1_4 hi1_9 (.inl (by omega))], hX⟩
              | exact ⟨by rw [may3 hi1_4 hi1_9 (.inr (.inl (by omega)))], hX⟩
              | exact ⟨by rw [may3 hi1_4 hi1_9 (.inr (.inr hi3_11))], hX⟩
              | exact ⟨by rw [may0 hi1_4 hi1_9 (by omega) (by omega) hi3_11 (by omega)], hX⟩
              | exact ⟨by rw [may0' hi1_4 hi1_9 (by omega) (by omega) hi3_11 (by omega) h8_1 hi8_5], hX⟩
              | exact ⟨by rw [may8 hi1_4 hi1_9 (by omega) (by omega) hi3_11 (by omega) (fun h => h8_1 h.1)], hX⟩
              | exact ⟨by rw [may8 hi1_4 hi1_9 (by omega) (by omega) hi3_11 (by omega) (fun h => hi8_5 h.2)], hX⟩
          · skip
            refine xl_pure rfl rfl rfl (pv_pick_f (v := .bool _) rfl rfl rfl) ?_
            refine xl_pure rfl rfl rfl (pv_move (v := .bool _) rfl rfl) ?_
            refine xl_pure rfl rfl rfl (pv_move (v := .pointer _) rfl rfl) ?_
            refine xl_pure rfl rfl rfl (pv_move (v := .int _ _) rfl rfl) ?_
            refine xl_pure rfl rfl rfl (pv_move (v := .int _ _) rfl rfl) ?_
            refine xl_heavy rfl rfl rfl (hv_call (g := 14) rfl rfl (gExists (hg.ext hX) hG ch az) rfl) ?_
            rintro v3_11 H3_11 ⟨hv3_11, hE3_11⟩
            have hX := hX.trans hE3_11
            rcases hv3_11 with ⟨hi3_11, rfl⟩ | ⟨hi3_11, rfl⟩
            · skip
              refine xl_pure rfl rfl rfl (pv_not rfl rfl) ?_
              refine xl_pure rfl rfl rfl (pv_pick_f (v := .bool _) rfl rfl rfl) ?_
              refine xl_pure rfl rfl rfl (pv_assign (v := .bool _) rfl rfl) ?_
              refine xl_nil ?_
              refine xthen_normal ?_
              refine xc_cond_f rfl ?_
              refine xc_seq ?_
              refine xc_region ?_
              refine xl_pure rfl rfl rfl (pv_move (v := .int _ _) rfl rfl) ?_
              refine xl_pure rfl rfl rfl (pv_move (v := .int _ _) rfl rfl) ?_
              refine xl_dec rfl rfl rfl (pv_eql rfl rfl rfl) (fun h5_2 => ?_) (fun h5_2 => ?_)
              · skip
                refine xl_pure rfl rfl rfl (pv_assign (v := .bool _) rfl rfl) ?_
                refine xl_nil ?_
                refine xthen_normal ?_
                refine xc_cond_t rfl ?_
                refine xc_seq ?_
                refine xc_region ?_
                refine xl_pure rfl rfl rfl (pv_assign (v := .int _ _) rfl rfl) ?_
                refine xl_nil ?_
                refine xthen_normal ?_
                refine xc_ret ?_
                refine xblock_ret ?_
                refine xthen_ret ?_
                refine fin_ret (res1 (v := .int _ _) rfl rfl) ?_
                first
                  | exact ⟨by rw [may1 (fun h => hi1_4 h.1)], hX⟩
                  | exact ⟨by rw [may1 (fun h => hi1_9 h.2)], hX⟩
                  | exact ⟨by rw [may3 hi1_4 hi1_9 (.inl (by omega))], hX⟩
                  | exact ⟨by rw [may3 hi1_4 hi1_9 (.inr (.inl (by omega)))], hX⟩
                  | exact ⟨by rw [may3 hi1_4 hi1_9 (.inr (.inr hi3_11))], hX⟩
                  | exact ⟨by rw [may0 hi1_4 hi1_9 (by omega) (by omega) hi3_11 (by omega)], hX⟩
                  | exact ⟨by rw [may0' hi1_4 hi1_9 (by omega) (by omega) hi3_11 (by omega) h8_1 hi8_5], hX⟩
                  | exact ⟨by rw [may8 hi1_4 hi1_9 (by omega) (by omega) hi3_11 (by omega) (fun h => h8_1 h.1)], hX⟩
                  | exact ⟨by rw [may8 hi1_4 hi1_9 (by omega) (by omega) hi3_11 (by omega) (fun h => hi8_5 h.2)], hX⟩
              · skip
                refine xl_pure rfl rfl rfl (pv_assign (v := .bool _) rfl rfl) ?_
                refine xl_nil ?_
                refine xthen_normal ?_
                refine xc_cond_f rfl ?_
                refine xc_skip ?_
                refine xblock_normal ?_
                refine xthen_normal ?_
                refine xc_seq ?_
                refine xc_region ?_
                refine xl_pure rfl rfl rfl (pv_move (v := .pointer _) rfl rfl) ?_
                refine xl_pure rfl rfl rfl (pv_move (v := .int _ _) rfl rfl) ?_
                refine xl_pure rfl rfl rfl (pv_move (v := .int _ _) rfl rfl) ?_
                refine xl_heavy rfl rfl rfl (hv_call (g := 34) rfl rfl (gRolesG (hg.ext hX) hG az who) rfl) ?_
                rintro v7_3 H7_3 ⟨rfl, hE7_3⟩
                have hX := hX.trans hE7_3
                refine xl_pure rfl rfl rfl (pv_move (v := .tuple _) rfl rfl) ?_
                refine xl_pure rfl rfl rfl (pv_extract (v := .int _ _) rfl rfl rfl) ?_
                refine xl_pure rfl rfl rfl (pv_extract (v := .int _ _) rfl rfl rfl) ?_
                refine xl_pure rfl rfl rfl (pv_assign (v := .int _ _) rfl rfl) ?_
                refine xl_pure rfl rfl rfl (pv_assign (v := .int _ _) rfl rfl) ?_
                refine xl_nil ?_
                refine xthen_normal ?_
                refine xc_seq ?_
                refine xc_seq ?_
                refine xc_region ?_
                refine xl_pure rfl rfl rfl (pv_move (v := .int _ _) rfl rfl) ?_
                refine xl_ndec rfl rfl rfl (pv_neq rfl rfl rfl) (fun h8_1 => ?_) (fun h8_1 => ?_)
                · skip
                  refine xl_pure rfl rfl rfl (pv_move (v := .bool _) rfl rfl) ?_
                  refine xl_pure rfl rfl rfl (pv_move (v := .int _ _) rfl rfl) ?_
                  refine xl_pure rfl rfl rfl (pv_move (v := .int _ _) rfl rfl) ?_
                  refine xl_heavy rfl rfl rfl (hv_call (g := 35) rfl rfl (gHas (rolN X az who) n) rfl) ?_
                  rintro v8_5 H8_5 ⟨hv8_5, rfl⟩
                  rcases hv8_5 with ⟨hi8_5, rfl⟩ | ⟨hi8_5, rfl⟩
                  · skip
                    refine xl_pure rfl rfl rfl (pv_not rfl rfl) ?_
                    refine xl_pure rfl rfl rfl (pv_pick_f (v := .bool _) rfl rfl rfl) ?_
                    refine xl_nil ?_
                    refine xthen_normal ?_
                    refine xc_cond_f rfl ?_
                    refine xc_skip ?_
                    refine xthen_normal ?_
                    refine xc_seq ?_
                    refine xc_region ?_
                    refine xl_pure rfl rfl rfl (pv_assign (v := .int _ _) rfl rfl) ?_
                    refine xl_nil ?_
                    refine xthen_normal ?_
                    refine xc_ret ?_
                    refine fin_ret (res1 (v := .int _ _) rfl rfl) ?_
                    first
                      | exact ⟨by rw [may1 (fun h => hi1_4 h.1)], hX⟩
                      | exact ⟨by rw [may1 (fun h => hi1_9 h.2)], hX⟩
                      | exact ⟨by rw [may3 hi1_4 hi1_9 (.inl (by omega))], hX⟩
                      | exact ⟨by rw [may3 hi1_4 hi1_9 (.inr (.inl (by omega)))], hX⟩
                      | exact ⟨by rw [may3 hi1_4 hi1_9 (.inr (.inr hi3_11))], hX⟩
                      | exact ⟨by rw [may0 hi1_4 hi1_9 (by omega) (by omega) hi3_11 (by omega)], hX⟩
                      | exact ⟨by rw [may0' hi1_4 hi1_9 (by omega) (by omega) hi3_11 (by omega) h8_1 hi8_5], hX⟩
                      | exact ⟨by rw [may8 hi1_4 hi1_9 (by omega) (by omega) hi3_11 (by omega) (fun h => h8_1 h.1)], hX⟩
                      | exact ⟨by rw [may8 hi1_4 hi1_9 (by omega) (by omega) hi3_11 (by omega) (fun h => hi8_5 h.2)], hX⟩
                  · skip
                    refine xl_pure rfl rfl rfl (pv_not rfl rfl) ?_
                    refine xl_pure rfl rfl rfl (pv_pick_f (v := .bool _) rfl rfl rfl) ?_
                    refine xl_nil ?_
                    refine xthen_normal ?_
                    refine xc_cond_t rfl ?_
                    refine xc_seq ?_
                    refine xc_region ?_
                    refine xl_pure rfl rfl rfl (pv_assign (v := .int _ _) rfl rfl) ?_
                    refine xl_nil ?_
                    refine xthen_normal ?_
                    refine xc_ret ?_
                    refine xthen_ret ?_
                    refine fin_ret (res1 (v := .int _ _) rfl rfl) ?_
                    first
                      | exact ⟨by rw [may1 (fun h => hi1_4 h.1)], hX⟩
                      | exact ⟨by rw [may1 (fun h => hi1_9 h.2)], hX⟩
                      | exact ⟨by rw [may3 hi1_4 hi1_9 (.inl (by omega))], hX⟩
                      | exact ⟨by rw [may3 hi1_4 hi1_9 (.inr (.inl (by omega)))], hX⟩
                      | exact ⟨by rw [may3 hi1_4 hi1_9 (.inr (.inr hi3_11))], hX⟩
                      | exact ⟨by rw [may0 hi1_4 hi1_9 (by omega) (by omega) hi3_11 (by omega)], hX⟩
                      | exact ⟨by rw [may0' hi1_4 hi1_9 (by omega) (by omega) hi3_11 (by omega) h8_1 hi8_5], hX⟩
                      | exact ⟨by rw [may8 hi1_4 hi1_9 (by omega) (by omega) hi3_11 (by omega) (fun h => h8_1 h.1)], hX⟩
                      | exact ⟨by rw [may8 hi1_4 hi1_9 (by omega) (by omega) hi3_11 (by omega) (fun h => hi8_5 h.2)], hX⟩
                · skip
                  refine xl_pure rfl rfl rfl (pv_move (v := .bool _) rfl rfl) ?_
                  refine xl_skip rfl rfl rfl ?_
                  refine xl_skip rfl rfl rfl ?_
                  refine xl_skip rfl rfl rfl ?_
                  refine xl_skip rfl rfl rfl ?_
                  refine xl_pure rfl rfl rfl (pv_pick_t (v := .bool _) rfl rfl rfl) ?_
                  refine xl_nil ?_
                  refine xthen_normal ?_
                  refine xc_cond_t rfl ?_
                  refine xc_seq ?_
                  refine xc_region ?_
                  refine xl_pure rfl rfl rfl (pv_assign (v := .int _ _) rfl rfl) ?_
                  refine xl_nil ?_
                  refine xthen_normal ?_
                  refine xc_ret ?_
                  refine xthen_ret ?_
                  refine fin_ret (res1 (v := .int _ _) rfl rfl) ?_
                  first
                    | exact ⟨by rw [may1 (fun h => hi1_4 h.1)], hX⟩
                    | exact ⟨by rw [may1 (fun h => hi1_9 h.2)], hX⟩
                    | exact ⟨by rw [may3 hi1_4 hi1_9 (.inl (by omega))], hX⟩
                    | exact ⟨by rw [may3 hi1_4 hi1_9 (.inr (.inl (by omega)))], hX⟩
                    | exact ⟨by rw [may3 hi1_4 hi1_9 (.inr (.inr hi3_11))], hX⟩
                    | exact ⟨by rw [may0 hi1_4 hi1_9 (by omega) (by omega) hi3_11 (by omega)], hX⟩
                    | exact ⟨by rw [may0' hi1_4 hi1_9 (by omega) (by omega) hi3_11 (by omega) h8_1 hi8_5], hX⟩
                    | exact ⟨by rw [may8 hi1_4 hi1_9 (by omega) (by omega) hi3_11 (by omega) (fun h => h8_1 h.1)], hX⟩
                    | exact ⟨by rw [may8 hi1_4 hi1_9 (by omega) (by omega) hi3_11 (by omega) (fun h => hi8_5 h.2)], hX⟩
            · skip
              refine xl_pure rfl rfl rfl (pv_not rfl rfl) ?_
              refine xl_pure rfl rfl rfl (pv_pick_f (v := .bool _) rfl rfl rfl) ?_
              refine xl_pure rfl rfl rfl (pv_assign (v := .bool _) rfl rfl) ?_
              refine xl_nil ?_
              refine xthen_normal ?_
              refine xc_cond_t rfl ?_
              refine xc_seq ?_
              refine xc_region ?_
              refine xl_pure rfl rfl rfl (pv_assign (v := .int _ _) rfl rfl) ?_
              refine xl_nil ?_
              refine xthen_normal ?_
              refine xc_ret ?_
              refine xblock_ret ?_
              refine xthen_ret ?_
              refine fin_ret (res1 (v := .int _ _) rfl rfl) ?_
              first
                | exact ⟨by rw [may1 (fun h => hi1_4 h.1)], hX⟩
                | exact ⟨by rw [may1 (fun h => hi1_9 h.2)], hX⟩
                | exact ⟨by rw [may3 hi1_4 hi1_9 (.inl (by omega))], hX⟩
                | exact ⟨by rw [may3 hi1_4 hi1_9 (.inr (.inl (by omega)))], hX⟩
                | exact ⟨by rw [may3 hi1_4 hi1_9 (.inr (.inr hi3_11))], hX⟩
                | exact ⟨by rw [may0 hi1_4 hi1_9 (by omega) (by omega) hi3_11 (by omega)], hX⟩
                | exact ⟨by rw [may0' hi1_4 hi1_9 (by omega) (by omega) hi3_11 (by omega) h8_1 hi8_5], hX⟩
                | exact ⟨by rw [may8 hi1_4 hi1_9 (by omega) (by omega) hi3_11 (by omega) (fun h => h8_1 h.1)], hX⟩
                | exact ⟨by rw [may8 hi1_4 hi1_9 (by omega) (by omega) hi3_11 (by omega) (fun h => hi8_5 h.2)], hX⟩
      · exact absurd (by decide) h1_10
    · skip
      refine xl_ndec rfl rfl rfl (pv_neq rfl rfl rfl) (fun h1_10 => ?_) (fun h1_10 => ?_)
      · exact absurd h1_10 (by decide)
      · skip
        refine xl_pure rfl rfl rfl (pv_pick_f (v := .bool _) rfl rfl rfl) ?_
        refine xl_pure rfl rfl rfl (pv_assign (v := .bool _) rfl rfl) ?_
        refine xl_nil ?_
        refine xthen_normal ?_
        refine xc_cond_t rfl ?_
        refine xc_seq ?_
        refine xc_region ?_
        refine xl_pure rfl rfl rfl (pv_assign (v := .int _ _) rfl rfl) ?_
        refine xl_nil ?_
        refine xthen_normal ?_
        refine xc_ret ?_
        refine xblock_ret ?_
        refine xthen_ret ?_
        refine fin_ret (res1 (v := .int _ _) rfl rfl) ?_
        first
          | exact ⟨by rw [may1 (fun h => hi1_4 h.1)], hX⟩
          | exact ⟨by rw [may1 (fun h => hi1_9 h.2)], hX⟩
          | exact ⟨by rw [may3 hi1_4 hi1_9 (.inl (by omega))], hX⟩
          | exact ⟨by rw [may3 hi1_4 hi1_9 (.inr (.inl (by omega)))], hX⟩
          | exact ⟨by rw [may3 hi1_4 hi1_9 (.inr (.inr hi3_11))], hX⟩
          | exact ⟨by rw [may0 hi1_4 hi1_9 (by omega) (by omega) hi3_11 (by omega)], hX⟩
          | exact ⟨by rw [may0' hi1_4 hi1_9 (by omega) (by omega) hi3_11 (by omega) h8_1 hi8_5], hX⟩
          | exact ⟨by rw [may8 hi1_4 hi1_9 (by omega) (by omega) hi3_11 (by omega) (fun h => h8_1 h.1)], hX⟩
          | exact ⟨by rw [may8 hi1_4 hi1_9 (by omega) (by omega) hi3_11 (by omega) (fun h => hi8_5 h.2)], hX⟩
  · skip
    refine xl_pure rfl rfl rfl (pv_not rfl rfl) ?_
    refine xl_pure rfl rfl rfl (pv_pick_f (v := .bool _) rfl rfl rfl) ?_
    refine xl_pure rfl rfl rfl (pv_move (v := .bool _) rfl rfl) ?_
    refine xl_skip rfl rfl rfl ?_
    refine xl_skip rfl rfl rfl ?_
    refine xl_skip rfl rfl rfl ?_
    refine xl_pure rfl rfl rfl (pv_pick_t (v := .bool _) rfl rfl rfl) ?_
    refine xl_pure rfl rfl rfl (pv_assign (v := .bool _) rfl rfl) ?_
    refine xl_nil ?_
    refine xthen_normal ?_
    refine xc_cond_t rfl ?_
    refine xc_seq ?_
    refine xc_region ?_
    refine xl_pure rfl rfl rfl (pv_assign (v := .int _ _) rfl rfl) ?_
    refine xl_nil ?_
    refine xthen_normal ?_
    refine xc_ret ?_
    refine xblock_ret ?_
    refine xthen_ret ?_
    refine fin_ret (res1 (v := .int _ _) rfl rfl) ?_
    first
      | exact ⟨by rw [may1 (fun h => hi1_4 h.1)], hX⟩
      | exact ⟨by rw [may1 (fun h => hi1_9 h.2)], hX⟩
      | exact ⟨by rw [may3 hi1_4 hi1_9 (.inl (by omega))], hX⟩
      | exact ⟨by rw [may3 hi1_4 hi1_9 (.inr (.inl (by omega)))], hX⟩
      | exact ⟨by rw [may3 hi1_4 hi1_9 (.inr (.inr hi3_11))], hX⟩
      | exact ⟨by rw [may0 hi1_4 hi1_9 (by omega) (by omega) hi3_11 (by omega)], hX⟩
      | exact ⟨by rw [may0' hi1_4 hi1_9 (by omega) (by omega) hi3_11 (by omega) h8_1 hi8_5], hX⟩
      | exact ⟨by rw [may8 hi1_4 hi1_9 (by omega) (by omega) hi3_11 (by omega) (fun h => h8_1 h.1)], hX⟩
      | exact ⟨by rw [may8 hi1_4 hi1_9 (by omega) (by omega) hi3_11 (by omega) (fun h => hi8_5 h.2)], hX⟩

theorem gMayn {O : Outer} {H : Heap}  (ch who az n : Int) :
    FnC Try.prog 12 #[.pointer none, .int .i64 ch, .int .i64 who, .int .i64 az, .int .i64 n] O H (fun v H' => v = .int .i64 1 ∧ Ext H H') := by
  refine fn_enter (A := [.pointer none, .int .i64 ch, .int .i64 who, .int .i64 az, .int .i64 n]) Try.func12 rfl rfl ?_
  have hX := Ext.refl H
  refine xc_seq ?_
  refine xc_region ?_
  refine xl_pure rfl rfl rfl (pv_assign (v := .int _ _) rfl rfl) ?_
  refine xl_nil ?_
  refine xthen_normal ?_
  refine xc_seq ?_
  refine xc_block ?_
  refine xc_seq ?_
  refine xc_region ?_
  refine xl_pure rfl rfl rfl (pv_move (v := .pointer _) rfl rfl) ?_
  refine xl_pure rfl rfl rfl (pv_eql_nn rfl rfl rfl) ?_
  refine xl_pure rfl rfl rfl (pv_move (v := .bool _) rfl rfl) ?_
  refine xl_skip rfl rfl rfl ?_
  refine xl_skip rfl rfl rfl ?_
  refine xl_skip rfl rfl rfl ?_
  refine xl_pure rfl rfl rfl (pv_pick_t (v := .bool _) rfl rfl rfl) ?_
  refine xl_pure rfl rfl rfl (pv_move (v := .bool _) rfl rfl) ?_
  refine xl_skip rfl rfl rfl ?_
  refine xl_skip rfl rfl rfl ?_
  refine xl_skip rfl rfl rfl ?_
  refine xl_pure rfl rfl rfl (pv_pick_t (v := .bool _) rfl rfl rfl) ?_
  refine xl_pure rfl rfl rfl (pv_assign (v := .bool _) rfl rfl) ?_
  refine xl_nil ?_
  refine xthen_normal ?_
  refine xc_cond_t rfl ?_
  refine xc_seq ?_
  refine xc_region ?_
  refine xl_pure rfl rfl rfl (pv_assign (v := .int _ _) rfl rfl) ?_
  refine xl_nil ?_
  refine xthen_normal ?_
  refine xc_ret ?_
  refine xblock_ret ?_
  refine xthen_ret ?_
  refine fin_ret (res1 (v := .int _ _) rfl rfl) ?_
  exact ⟨rfl, hX⟩

theorem rMayX {O : Outer} {H : Heap} {a : Option Addr} {c B0 : Nat} {X : List (List (List Int))} (hD : DK H B0 a (tg X)) (hG : GOk X) (ch who az n : Int) :
    FnC Try.prog 13 #[.slice a X.length c, .int .i64 ch, .int .i64 who, .int .i64 az, .int .i64 n] O H (fun v H' => v = .int .i64 (mayE X ch who az n) ∧ H = H') := by
  refine fn_enter (A := [.slice a X.length c, .int .i64 ch, .int .i64 who, .int .i64 az, .int .i64 n]) Try.func13 rfl rfl ?_
  have hX := Ext.refl H
  refine xc_seq ?_
  refine xc_region ?_
  refine xl_pure rfl rfl rfl (pv_assign (v := .int _ _) rfl rfl) ?_
  refine xl_nil ?_
  refine xthen_normal ?_
  refine xc_seq ?_
  refine xc_seq ?_
  refine xc_region ?_
  refine xl_pure rfl rfl rfl (pv_move (v := .int _ _) rfl rfl) ?_
  refine xl_dec rfl rfl rfl (pv_lss rfl rfl rfl) (fun h1_1 => ?_) (fun h1_1 => ?_)
  · skip
    refine xl_pure rfl rfl rfl (pv_move (v := .bool _) rfl rfl) ?_
    refine xl_skip rfl rfl rfl ?_
    refine xl_skip rfl rfl rfl ?_
    refine xl_pure rfl rfl rfl (pv_pick_t (v := .bool _) rfl rfl rfl) ?_
    refine xl_pure rfl rfl rfl (pv_move (v := .bool _) rfl rfl) ?_
    refine xl_skip rfl rfl rfl ?_
    refine xl_skip rfl rfl rfl ?_
    refine xl_skip rfl rfl rfl ?_
    refine xl_pure rfl rfl rfl (pv_pick_t (v := .bool _) rfl rfl rfl) ?_
    refine xl_nil ?_
    refine xthen_normal ?_
    refine xc_cond_t rfl ?_
    refine xc_seq ?_
    refine xc_region ?_
    refine xl_pure rfl rfl rfl (pv_assign (v := .int _ _) rfl rfl) ?_
    refine xl_nil ?_
    refine xthen_normal ?_
    refine xc_ret ?_
    refine xthen_ret ?_
    refine fin_ret (res1 (v := .int _ _) rfl rfl) ?_
    first
      | exact ⟨by rw [may1 (fun h => (by have h1 := h.1.1; have h2 := h.1.2; omega))], rfl⟩
      | exact ⟨by rw [may1 (fun h => hi1_8 h.2)], rfl⟩
      | exact ⟨by rw [may3 ⟨by omega, by omega⟩ hi1_8 (.inl (by omega))], rfl⟩
      | exact ⟨by rw [may3 ⟨by omega, by omega⟩ hi1_8 (.inr (.inl (by omega)))], rfl⟩
      | exact ⟨by rw [may3 ⟨by omega, by omega⟩ hi1_8 (.inr (.inr hi3_11))], rfl⟩
      | exact ⟨by rw [may0 ⟨by omega, by omega⟩ hi1_8 (by omega) (by omega) hi3_11 (by omega)], rfl⟩
      | exact ⟨by rw [may0' ⟨by omega, by omega⟩ hi1_8 (by omega) (by omega) hi3_11 (by omega) h8_1 hi8_5], rfl⟩
      | exact ⟨by rw [may8 ⟨by omega, by omega⟩ hi1_8 (by omega) (by omega) hi3_11 (by omega) (fun h => h8_1 h.1)], rfl⟩
      | exact ⟨by rw [may8 ⟨by omega, by omega⟩ hi1_8 (by omega) (by omega) hi3_11 (by omega) (fun h => hi8_5 h.2)], rfl⟩
  · skip
    refine xl_pure rfl rfl rfl (pv_move (v := .bool _) rfl rfl) ?_
    refine xl_pure rfl rfl rfl (pv_move (v := .int _ _) rfl rfl) ?_
    refine xl_dec rfl rfl rfl (pv_gtr rfl rfl rfl) (fun h1_4 => ?_) (fun h1_4 => ?_)
    · skip
      refine xl_pure rfl rfl rfl (pv_pick_f (v := .bool _) rfl rfl rfl) ?_
      refine xl_pure rfl rfl rfl (pv_move (v := .bool _) rfl rfl) ?_
      refine xl_skip rfl rfl rfl ?_
      refine xl_skip rfl rfl rfl ?_
      refine xl_skip rfl rfl rfl ?_
      refine xl_pure rfl rfl rfl (pv_pick_t (v := .bool _) rfl rfl rfl) ?_
      refine xl_nil ?_
      refine xthen_normal ?_
      refine xc_cond_t rfl ?_
      refine xc_seq ?_
      refine xc_region ?_
      refine xl_pure rfl rfl rfl (pv_assign (v := .int _ _) rfl rfl) ?_
      refine xl_nil ?_
      refine xthen_normal ?_
      refine xc_ret ?_
      refine xthen_ret ?_
      refine fin_ret (res1 (v := .int _ _) rfl rfl) ?_
      first
        | exact ⟨by rw [may1 (fun h => (by have h1 := h.1.1; have h2 := h.1.2; omega))], rfl⟩
        | exact ⟨by rw [may1 (fun h => hi1_8 h.2)], rfl⟩
        | exact ⟨by rw [may3 ⟨by omega, by omega⟩ hi1_8 (.inl (by omega))], rfl⟩
        | exact ⟨by rw [may3 ⟨by omega, by omega⟩ hi1_8 (.inr (.inl (by omega)))], rfl⟩
        | exact ⟨by rw [may3 ⟨by omega, by omega⟩ hi1_8 (.inr (.inr hi3_11))], rfl⟩
        | exact ⟨by rw [may0 ⟨by omega, by omega⟩ hi1_8 (by omega) (by omega) hi3_11 (by omega)], rfl⟩
        | exact ⟨by rw [may0' ⟨by omega, by omega⟩ hi1_8 (by omega) (by omega) hi3_11 (by omega) h8_1 hi8_5], rfl⟩
        | exact ⟨by rw [may8 ⟨by omega, by omega⟩ hi1_8 (by omega) (by omega) hi3_11 (by omega) (fun h => h8_1 h.1)], rfl⟩
        | exact ⟨by rw [may8 ⟨by omega, by omega⟩ hi1_8 (by omega) (by omega) hi3_11 (by omega) (fun h => hi8_5 h.2)], rfl⟩
    · skip
      refine xl_pure rfl rfl rfl (pv_pick_f (v := .bool _) rfl rfl rfl) ?_
      refine xl_pure rfl rfl rfl (pv_move (v := .bool _) rfl rfl) ?_
      refine xl_pure rfl rfl rfl (pv_move (v := .int _ _) rfl rfl) ?_
      refine xl_heavy rfl rfl rfl (hv_call (g := 32) rfl rfl (rMay n) rfl) ?_
      rintro v1_8 H1_8 ⟨hv1_8, rfl⟩
      rcases hv1_8 with ⟨hi1_8, rfl⟩ | ⟨hi1_8, rfl⟩
      · skip
        refine xl_pure rfl rfl rfl (pv_not rfl rfl) ?_
        refine xl_pure rfl rfl rfl (pv_pick_f (v := .bool _) rfl rfl rfl) ?_
        refine xl_nil ?_
        refine xthen_normal ?_
        refine xc_cond_f rfl ?_
        refine xc_skip ?_
        refine xthen_normal ?_
        refine xc_seq ?_
        refine xc_seq ?_
        refine xc_region ?_
        refine xl_pure rfl rfl rfl (pv_move (v := .int _ _) rfl rfl) ?_
        refine xl_dec rfl rfl rfl (pv_lss rfl rfl rfl) (fun h3_1 => ?_) (fun h3_1 => ?_)
        · skip
          refine xl_pure rfl rfl rfl (pv_move (v := .bool _) rfl rfl) ?_
          refine xl_skip rfl rfl rfl ?_
          refine xl_skip rfl rfl rfl ?_
          refine xl_skip rfl rfl rfl ?_
          refine xl_pure rfl rfl rfl (pv_pick_t (v := .bool _) rfl rfl rfl) ?_
          refine xl_pure rfl rfl rfl (pv_move (v := .bool _) rfl rfl) ?_
          refine xl_skip rfl rfl rfl ?_
          refine xl_skip rfl rfl rfl ?_
          refine xl_skip rfl rfl rfl ?_
          refine xl_skip rfl rfl rfl ?_
          refine xl_skip rfl rfl rfl ?_
          refine xl_pure rfl rfl rfl (pv_pick_t (v := .bool _) rfl rfl rfl) ?_
          refine xl_nil ?_
          refine xthen_normal ?_
          refine xc_cond_t rfl ?_
          refine xc_seq ?_
          refine xc_region ?_
          refine xl_pure rfl rfl rfl (pv_assign (v := .int _ _) rfl rfl) ?_
          refine xl_nil ?_
          refine xthen_normal ?_
          refine xc_ret ?_
          refine xthen_ret ?_
          refine fin_ret (res1 (v := .int _ _) rfl rfl) ?_
          first
            | exact ⟨by rw [may1 (fun h => (by have h1 := h.1.1; have h2 := h.1.2; omega))], rfl⟩
            | exact ⟨by rw [may1 (fun h => hi1_8 h.2)], rfl⟩
            | exact ⟨by rw [may3 ⟨by omega, by omega⟩ hi1_8 (.inl (by omega))], rfl⟩
            | exact ⟨by rw [may3 ⟨by omega, by omega⟩ hi1_8 (.inr (.inl (by omega)))], rfl⟩
            | exact ⟨by rw [may3 ⟨by omega, by omega⟩ hi1_8 (.inr (.inr hi3_11))], rfl⟩
            | exact ⟨by rw [may0 ⟨by omega, by omega⟩ hi1_8 (by omega) (by omega) hi3_11 (by omega)], rfl⟩
            | exact ⟨by rw [may0' ⟨by omega, by omega⟩ hi1_8 (by omega) (by omega) hi3_11 (by omega) h8_1 hi8_5], rfl⟩
            | exact ⟨by rw [may8 ⟨by omega, by omega⟩ hi1_8 (by omega) (by omega) hi3_11 (by omega) (fun h => h8_1 h.1)], rfl⟩
            | exact ⟨by rw [may8 ⟨by omega, by omega⟩ hi1_8 (by omega) (by omega) hi3_11 (by omega) (fun h => hi8_5 h.2)], rfl⟩
        · skip
          refine xl_pure rfl rfl rfl (pv_move (v := .bool _) rfl rfl) ?_
          refine xl_pure rfl rfl rfl (pv_move (v := .int _ _) rfl rfl) ?_
          refine xl_pure rfl rfl rfl (pv_move (v := .int _ _) rfl rfl) ?_
          refine xl_dec rfl rfl rfl (pv_gtr rfl rfl rfl) (fun h3_5 => ?_) (fun h3_5 => ?_)
          · skip
            refine xl_pure rfl rfl rfl (pv_pick_f (v := .bool _) rfl rfl rfl) ?_
            refine xl_pure rfl rfl rfl (pv_move (v := .bool _) rfl rfl) ?_
            refine xl_skip rfl rfl rfl ?_
            refine xl_skip rfl rfl rfl ?_
            refine xl_skip rfl rfl rfl ?_
            refine xl_skip rfl rfl rfl ?_
            refine xl_skip rfl rfl rfl ?_
            refine xl_pure rfl rfl rfl (pv_pick_t (v := .bool _) rfl rfl rfl) ?_
            refine xl_nil ?_
            refine xthen_normal ?_
            refine xc_cond_t rfl ?_
            refine xc_seq ?_
            refine xc_region ?_
            refine xl_pure rfl rfl rfl (pv_assign (v := .int _ _) rfl rfl) ?_
            refine xl_nil ?_
            refine xthen_normal ?_
            refine xc_ret ?_
            refine xthen_ret ?_
            refine fin_ret (res1 (v := .int _ _) rfl rfl) ?_
            first
              | exact ⟨by rw [may1 (fun h => (by have h1 := h.1.1; have h2 := h.1.2; omega))], rfl⟩
              | exact ⟨by rw [may1 (fun h => hi1_8 h.2)], rfl⟩
              | exact ⟨by rw [may3 ⟨by omega, by omega⟩ hi1_8 (.inl (by omega))], rfl⟩
              | exact ⟨by rw [may3 ⟨by omega, by omega⟩ hi1_8 (.inr (.inl (by omega)))], rfl⟩
              | exact ⟨by rw [may3 ⟨by omega, by omega⟩ hi1_8 (.inr (.inr hi3_11))], rfl⟩
              | exact ⟨by rw [may0 ⟨by omega, by omega⟩ hi1_8 (by omega) (by omega) hi3_11 (by omega)], rfl⟩
              | exact ⟨by rw [may0' ⟨by omega, by omega⟩ hi1_8 (by omega) (by omega) hi3_11 (by omega) h8_1 hi8_5], rfl⟩
              | exact ⟨by rw [may8 ⟨by omega, by omega⟩ hi1_8 (by omega) (by omega) hi3_11 (by omega) (fun h => h8_1 h.1)], rfl⟩
              | exact ⟨by rw [may8 ⟨by omega, by omega⟩ hi1_8 (by omega) (by omega) hi3_11 (by omega) (fun h => hi8_5 h.2)], rfl⟩
          · skip
            refine xl_pure rfl rfl rfl (pv_pick_f (v := .bool _) rfl rfl rfl) ?_
            refine xl_pure rfl rfl rfl (pv_move (v := .bool _) rfl rfl) ?_
            refine xl_pure rfl rfl rfl (pv_move (v := .slice _ _ _) rfl rfl) ?_
            refine xl_pure rfl rfl rfl (pv_move (v := .int _ _) rfl rfl) ?_
            refine xl_pure rfl rfl rfl (pv_move (v := .int _ _) rfl rfl) ?_
            refine xl_heavy rfl rfl rfl (hv_call (g := 15) rfl rfl (rExists hD hG ch az) rfl) ?_
            rintro v3_11 H3_11 ⟨hv3_11, rfl⟩
            rcases hv3_11 with ⟨hi3_11, rfl⟩ | ⟨hi3_11, rfl⟩
            · skip
              refine xl_pure rfl rfl rfl (pv_not rfl rfl) ?_
              refine xl_pure rfl rfl rfl (pv_pick_f (v := .bool _) rfl rfl rfl) ?_
              refine xl_nil ?_
              refine xthen_normal ?_
              refine xc_cond_f rfl ?_
              refine xc_skip ?_
              refine xthen_normal ?_
              refine xc_seq ?_
              refine xc_seq ?_
              refine xc_region ?_
              refine xl_pure rfl rfl rfl (pv_move (v := .int _ _) rfl rfl) ?_
              refine xl_pure rfl rfl rfl (pv_move (v := .int _ _) rfl rfl) ?_
              refine xl_dec rfl rfl rfl (pv_eql rfl rfl rfl) (fun h5_2 => ?_) (fun h5_2 => ?_)
              · skip
                refine xl_nil ?_
                refine xthen_normal ?_
                refine xc_cond_t rfl ?_
                refine xc_seq ?_
                refine xc_region ?_
                refine xl_pure rfl rfl rfl (pv_assign (v := .int _ _) rfl rfl) ?_
                refine xl_nil ?_
                refine xthen_normal ?_
                refine xc_ret ?_
                refine xthen_ret ?_
                refine fin_ret (res1 (v := .int _ _) rfl rfl) ?_
                first
                  | exact ⟨by rw [may1 (fun h => (by have h1 := h.1.1; have h2 := h.1.2; omega))], rfl⟩
                  | exact ⟨by rw [may1 (fun h => hi1_8 h.2)], rfl⟩
                  | exact ⟨by rw [may3 ⟨by omega, by omega⟩ hi1_8 (.inl (by omega))], rfl⟩
                  | exact ⟨by rw [may3 ⟨by omega, by omega⟩ hi1_8 (.inr (.inl (by omega)))], rfl⟩
                  | exact ⟨by rw [may3 ⟨by omega, by omega⟩ hi1_8 (.inr (.inr hi3_11))], rfl⟩
                  | exact ⟨by rw [may0 ⟨by omega, by omega⟩ hi1_8 (by omega) (by omega) hi3_11 (by omega)], rfl⟩
                  | exact ⟨by rw [may0' ⟨by omega, by omega⟩ hi1_8 (by omega) (by omega) hi3_11 (by omega) h8_1 hi8_5], rfl⟩
                  | exact ⟨by rw [may8 ⟨by omega, by omega⟩ hi1_8 (by omega) (by omega) hi3_11 (by omega) (fun h => h8_1 h.1)], rfl⟩
                  | exact ⟨by rw [may8 ⟨by omega, by omega⟩ hi1_8 (by omega) (by omega) hi3_11 (by omega) (fun h => hi8_5 h.2)], rfl⟩
              · skip
                refine xl_nil ?_
                refine xthen_normal ?_
                refine xc_cond_f rfl ?_
                refine xc_skip ?_
                refine xthen_normal ?_
                refine xc_seq ?_
                refine xc_region ?_
                refine xl_pure rfl rfl rfl (pv_move (v := .slice _ _ _) rfl rfl) ?_
                refine xl_pure rfl rfl rfl (pv_move (v := .int _ _) rfl rfl) ?_
                refine xl_pure rfl rfl rfl (pv_move (v := .int _ _) rfl rfl) ?_
                refine xl_heavy rfl rfl rfl (hv_call (g := 36) rfl rfl (rRoles hD hG az who) rfl) ?_
                rintro v7_3 H7_3 ⟨rfl, rfl⟩
                refine xl_pure rfl rfl rfl (pv_move (v := .tuple _) rfl rfl) ?_
                refine xl_pure rfl rfl rfl (pv_extract (v := .int _ _) rfl rfl rfl) ?_
                refine xl_pure rfl rfl rfl (pv_extract (v := .int _ _) rfl rfl rfl) ?_
                refine xl_pure rfl rfl rfl (pv_assign (v := .int _ _) rfl rfl) ?_
                refine xl_pure rfl rfl rfl (pv_assign (v := .int _ _) rfl rfl) ?_
                refine xl_nil ?_
                refine xthen_normal ?_
                refine xc_seq ?_
                refine xc_seq ?_
                refine xc_region ?_
                refine xl_pure rfl rfl rfl (pv_move (v := .int _ _) rfl rfl) ?_
                refine xl_ndec rfl rfl rfl (pv_neq rfl rfl rfl) (fun h8_1 => ?_) (fun h8_1 => ?_)
                · skip
                  refine xl_pure rfl rfl rfl (pv_move (v := .bool _) rfl rfl) ?_
                  refine xl_pure rfl rfl rfl (pv_move (v := .int _ _) rfl rfl) ?_
                  refine xl_pure rfl rfl rfl (pv_move (v := .int _ _) rfl rfl) ?_
                  refine xl_heavy rfl rfl rfl (hv_call (g := 37) rfl rfl (rHas (rolN X az who) n) rfl) ?_
                  rintro v8_5 H8_5 ⟨hv8_5, rfl⟩
                  rcases hv8_5 with ⟨hi8_5, rfl⟩ | ⟨hi8_5, rfl⟩
                  · skip
                    refine xl_pure rfl rfl rfl (pv_not rfl rfl) ?_
                    refine xl_pure rfl rfl rfl (pv_pick_f (v := .bool _) rfl rfl rfl) ?_
                    refine xl_nil ?_
                    refine xthen_normal ?_
                    refine xc_cond_f rfl ?_
                    refine xc_skip ?_
                    refine xthen_normal ?_
                    refine xc_seq ?_
                    refine xc_region ?_
                    refine xl_pure rfl rfl rfl (pv_assign (v := .int _ _) rfl rfl) ?_
                    refine xl_nil ?_
                    refine xthen_normal ?_
                    refine xc_ret ?_
                    refine fin_ret (res1 (v := .int _ _) rfl rfl) ?_
                    first
                      | exact ⟨by rw [may1 (fun h => (by have h1 := h.1.1; have h2 := h.1.2; omega))], rfl⟩
                      | exact ⟨by rw [may1 (fun h => hi1_8 h.2)], rfl⟩
                      | exact ⟨by rw [may3 ⟨by omega, by omega⟩ hi1_8 (.inl (by omega))], rfl⟩
                      | exact ⟨by rw [may3 ⟨by omega, by omega⟩ hi1_8 (.inr (.inl (by omega)))], rfl⟩
                      | exact ⟨by rw [may3 ⟨by omega, by omega⟩ hi1_8 (.inr (.inr hi3_11))], rfl⟩
                      | exact ⟨by rw [may0 ⟨by omega, by omega⟩ hi1_8 (by omega) (by omega) hi3_11 (by omega)], rfl⟩
                      | exact ⟨by rw [may0' ⟨by omega, by omega⟩ hi1_8 (by omega) (by omega) hi3_11 (by omega) h8_1 hi8_5], rfl⟩
                      | exact ⟨by rw [may8 ⟨by omega, by omega⟩ hi1_8 (by omega) (by omega) hi3_11 (by omega) (fun h => h8_1 h.1)], rfl⟩
                      | exact ⟨by rw [may8 ⟨by omega, by omega⟩ hi1_8 (by omega) (by omega) hi3_11 (by omega) (fun h => hi8_5 h.2)], rfl⟩
                  · skip
                    refine xl_pure rfl rfl rfl (pv_not rfl rfl) ?_
                    refine xl_pure rfl rfl rfl (pv_pick_f (v := .bool _) rfl rfl rfl) ?_
                    refine xl_nil ?_
                    refine xthen_normal ?_
                    refine xc_cond_t rfl ?_
                    refine xc_seq ?_
                    refine xc_region ?_
                    refine xl_pure rfl rfl rfl (pv_assign (v := .int _ _) rfl rfl) ?_
                    refine xl_nil ?_
                    refine xthen_normal ?_
                    refine xc_ret ?_
                    refine xthen_ret ?_
                    refine fin_ret (res1 (v := .int _ _) rfl rfl) ?_
                    first
                      | exact ⟨by rw [may1 (fun h => (by have h1 := h.1.1; have h2 := h.1.2; omega))], rfl⟩
                      | exact ⟨by rw [may1 (fun h => hi1_8 h.2)], rfl⟩
                      | exact ⟨by rw [may3 ⟨by omega, by omega⟩ hi1_8 (.inl (by omega))], rfl⟩
                      | exact ⟨by rw [may3 ⟨by omega, by omega⟩ hi1_8 (.inr (.inl (by omega)))], rfl⟩
                      | exact ⟨by rw [may3 ⟨by omega, by omega⟩ hi1_8 (.inr (.inr hi3_11))], rfl⟩
                      | exact ⟨by rw [may0 ⟨by omega, by omega⟩ hi1_8 (by omega) (by omega) hi3_11 (by omega)], rfl⟩
                      | exact ⟨by rw [may0' ⟨by omega, by omega⟩ hi1_8 (by omega) (by omega) hi3_11 (by omega) h8_1 hi8_5], rfl⟩
                      | exact ⟨by rw [may8 ⟨by omega, by omega⟩ hi1_8 (by omega) (by omega) hi3_11 (by omega) (fun h => h8_1 h.1)], rfl⟩
                      | exact ⟨by rw [may8 ⟨by omega, by omega⟩ hi1_8 (by omega) (by omega) hi3_11 (by omega) (fun h => hi8_5 h.2)], rfl⟩
                · skip
                  refine xl_pure rfl rfl rfl (pv_move (v := .bool _) rfl rfl) ?_
                  refine xl_skip rfl rfl rfl ?_
                  refine xl_skip rfl rfl rfl ?_
                  refine xl_skip rfl rfl rfl ?_
                  refine xl_skip rfl rfl rfl ?_
                  refine xl_pure rfl rfl rfl (pv_pick_t (v := .bool _) rfl rfl rfl) ?_
                  refine xl_nil ?_
                  refine xthen_normal ?_
                  refine xc_cond_t rfl ?_
                  refine xc_seq ?_
                  refine xc_region ?_
                  refine xl_pure rfl rfl rfl (pv_assign (v := .int _ _) rfl rfl) ?_
                  refine xl_nil ?_
                  refine xthen_normal ?_
                  refine xc_ret ?_
                  refine xthen_ret ?_
                  refine fin_ret (res1 (v := .int _ _) rfl rfl) ?_
                  first
                    | exact ⟨by rw [may1 (fun h => (by have h1 := h.1.1; have h2 := h.1.2; omega))], rfl⟩
                    | exact ⟨by rw [may1 (fun h => hi1_8 h.2)], rfl⟩
                    | exact ⟨by rw [may3 ⟨by omega, by omega⟩ hi1_8 (.inl (by omega))], rfl⟩
                    | exact ⟨by rw [may3 ⟨by omega, by omega⟩ hi1_8 (.inr (.inl (by omega)))], rfl⟩
                    | exact ⟨by rw [may3 ⟨by omega, by omega⟩ hi1_8 (.inr (.inr hi3_11))], rfl⟩
                    | exact ⟨by rw [may0 ⟨by omega, by omega⟩ hi1_8 (by omega) (by omega) hi3_11 (by omega)], rfl⟩
                    | exact ⟨by rw [may0' ⟨by omega, by omega⟩ hi1_8 (by omega) (by omega) hi3_11 (by omega) h8_1 hi8_5], rfl⟩
                    | exact ⟨by rw [may8 ⟨by omega, by omega⟩ hi1_8 (by omega) (by omega) hi3_11 (by omega) (fun h => h8_1 h.1)], rfl⟩
                    | exact ⟨by rw [may8 ⟨by omega, by omega⟩ hi1_8 (by omega) (by omega) hi3_11 (by omega) (fun h => hi8_5 h.2)], rfl⟩
            · skip
              refine xl_pure rfl rfl rfl (pv_not rfl rfl) ?_
              refine xl_pure rfl rfl rfl (pv_pick_f (v := .bool _) rfl rfl rfl) ?_
              refine xl_nil ?_
              refine xthen_normal ?_
              refine xc_cond_t rfl ?_
              refine xc_seq ?_
              refine xc_region ?_
              refine xl_pure rfl rfl rfl (pv_assign (v := .int _ _) rfl rfl) ?_
              refine xl_nil ?_
              refine xthen_normal ?_
              refine xc_ret ?_
              refine xthen_ret ?_
              refine fin_ret (res1 (v := .int _ _) rfl rfl) ?_
              first
                | exact ⟨by rw [may1 (fun h => (by have h1 := h.1.1; have h2 := h.1.2; omega))], rfl⟩
                | exact ⟨by rw [may1 (fun h => hi1_8 h.2)], rfl⟩
                | exact ⟨by rw [may3 ⟨by omega, by omega⟩ hi1_8 (.inl (by omega))], rfl⟩
                | exact ⟨by rw [may3 ⟨by omega, by omega⟩ hi1_8 (.inr (.inl (by omega)))], rfl⟩
                | exact ⟨by rw [may3 ⟨by omega, by omega⟩ hi1_8 (.inr (.inr hi3_11))], rfl⟩
                | exact ⟨by rw [may0 ⟨by omega, by omega⟩ hi1_8 (by omega) (by omega) hi3_11 (by omega)], rfl⟩
                | exact ⟨by rw [may0' ⟨by omega, by omega⟩ hi1_8 (by omega) (by omega) hi3_11 (by omega) h8_1 hi8_5], rfl⟩
                | exact ⟨by rw [may8 ⟨by omega, by omega⟩ hi1_8 (by omega) (by omega) hi3_11 (by omega) (fun h => h8_1 h.1)], rfl⟩
                | exact ⟨by rw [may8 ⟨by omega, by omega⟩ hi1_8 (by omega) (by omega) hi3_11 (by omega) (fun h => hi8_5 h.2)], rfl⟩
      · skip
        refine xl_pure rfl rfl rfl (pv_not rfl rfl) ?_
        refine xl_pure rfl rfl rfl (pv_pick_f (v := .bool _) rfl rfl rfl) ?_
        refine xl_nil ?_
        refine xthen_normal ?_
        refine xc_cond_t rfl ?_
        refine xc_seq ?_
        refine xc_region ?_
        refine xl_pure rfl rfl rfl (pv_assign (v := .int _ _) rfl rfl) ?_
        refine xl_nil ?_
        refine xthen_normal ?_
        refine xc_ret ?_
        refine xthen_ret ?_
        refine fin_ret (res1 (v := .int _ _) rfl rfl) ?_
        first
          | exact ⟨by rw [may1 (fun h => (by have h1 := h.1.1; have h2 := h.1.2; omega))], rfl⟩
          | exact ⟨by rw [may1 (fun h => hi1_8 h.2)], rfl⟩
          | exact ⟨by rw [may3 ⟨by omega, by omega⟩ hi1_8 (.inl (by omega))], rfl⟩
          | exact ⟨by rw [may3 ⟨by omega, by omega⟩ hi1_8 (.inr (.inl (by omega)))], rfl⟩
          | exact ⟨by rw [may3 ⟨by omega, by omega⟩ hi1_8 (.inr (.inr hi3_11))], rfl⟩
          | exact ⟨by rw [may0 ⟨by omega, by omega⟩ hi1_8 (by omega) (by omega) hi3_11 (by omega)], rfl⟩
          | exact ⟨by rw [may0' ⟨by omega, by omega⟩ hi1_8 (by omega) (by omega) hi3_11 (by omega) h8_1 hi8_5], rfl⟩
          | exact ⟨by rw [may8 ⟨by omega, by omega⟩ hi1_8 (by omega) (by omega) hi3_11 (by omega) (fun h => h8_1 h.1)], rfl⟩
          | exact ⟨by rw [may8 ⟨by omega, by omega⟩ hi1_8 (by omega) (by omega) hi3_11 (by omega) (fun h => hi8_5 h.2)], rfl⟩
end Go.XG
