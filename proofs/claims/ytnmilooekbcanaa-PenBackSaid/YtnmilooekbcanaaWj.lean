/-
  Walks of the seat's functions over the logic XG: each function, what it computes. Printed by a program out of wip/walks.py.
-/
import Derived.Test.YtnmilooekbcanaaI
import Derived.Test.YtnmilooekbcanaaP
import Derived.Test.YtnmilooekbcanaaL
import Derived.Test.YtnmilooekbcanaaWa
import Derived.Test.YtnmilooekbcanaaWb
import Derived.Test.YtnmilooekbcanaaWc
import Derived.Test.YtnmilooekbcanaaWd
import Derived.Test.YtnmilooekbcanaaWe
import Derived.Test.YtnmilooekbcanaaWf
import Derived.Test.YtnmilooekbcanaaWg
import Derived.Test.YtnmilooekbcanaaWh
import Derived.Test.YtnmilooekbcanaaWi
namespace Go.XG
open Go.Proofs Go.Pen
theorem c5 {O : Outer} {H : Heap} (xs : List Int) (ts : List (List UInt8)) (s : List UInt8) (a at' : Option Addr) (ca ct : Nat) (hl : xs.length = 0 ∨ ∃ ba off, a = some ⟨ba, off, none⟩ ∧ IntsAt H ba off xs) (hrng : I64s xs) (ht : ts.length = 0 ∨ ∃ ba off, at' = some ⟨ba, off, none⟩ ∧ StrsAt H ba off ts) :
    FnC Try.prog 5 #[.slice a xs.length ca, .slice at' ts.length ct, .string (bs s)] O H (fun v H' => v = .bool true ∧ Ext H H') := by
  refine fn_enter (A := [.slice a xs.length ca, .slice at' ts.length ct, .string (bs s)]) Try.func5 rfl rfl ?_
  refine xc_seq ?_
  refine xc_region ?_
  refine xl_pure rfl rfl rfl (pv_assign (v := .bool _) rfl rfl) ?_
  refine xl_nil ?_
  refine xthen_normal ?_
  refine xc_seq ?_
  refine xc_seq ?_
  refine xc_region ?_
  refine xl_pure rfl rfl rfl (pv_move (v := .slice _ _ _) rfl rfl) ?_
  refine xl_pure rfl rfl rfl (pv_len_l rfl rfl) ?_
  refine xl_dec rfl rfl rfl (pv_gtr rfl rfl rfl) (fun h1_2 => ?_) (fun h1_2 => ?_)
  · skip
    refine xl_pure rfl rfl rfl (pv_move (v := .bool _) rfl rfl) ?_
    refine xl_skip rfl rfl rfl ?_
    refine xl_skip rfl rfl rfl ?_
    refine xl_skip rfl rfl rfl ?_
    refine xl_pure rfl rfl rfl (pv_pick_t (v := .bool _) rfl rfl rfl) ?_
    refine xl_pure rfl rfl rfl (pv_move (v := .bool _) rfl rfl) ?_
    refine xl_skip rfl rfl rfl ?_
    refine xl_skip rfl rfl rfl ?_
    refine xl_skip rfl rfl rfl ?_
    refine xl_pure rfl rfl rfl (pv_pick_t (v := .bool _) rfl rfl rfl) ?_
    refine xl_nil ?_
    refine xthen_normal ?_
    refine xc_cond_t rfl ?_
    refine xc_seq ?_
    refine xc_region ?_
    refine xl_heavy rfl rfl rfl (hv_call (g := 7) rfl rfl (c7) rfl) ?_
    rintro v2_0 H2_0 ⟨rfl, hE2_0⟩
    refine xl_pure rfl rfl rfl (pv_assign (v := .bool _) rfl rfl) ?_
    refine xl_nil ?_
    refine xthen_normal ?_
    refine xc_ret ?_
    refine xthen_ret ?_
    refine fin_ret (res1 (v := .bool _) rfl rfl) ?_
    exact ⟨rfl, hE2_0⟩
  · skip
    refine xl_pure rfl rfl rfl (pv_move (v := .bool _) rfl rfl) ?_
    refine xl_pure rfl rfl rfl (pv_move (v := .slice _ _ _) rfl rfl) ?_
    refine xl_pure rfl rfl rfl (pv_len_l rfl rfl) ?_
    refine xl_dec rfl rfl rfl (pv_gtr rfl rfl rfl) (fun h1_6 => ?_) (fun h1_6 => ?_)
    · skip
      refine xl_pure rfl rfl rfl (pv_pick_f (v := .bool _) rfl rfl rfl) ?_
      refine xl_pure rfl rfl rfl (pv_move (v := .bool _) rfl rfl) ?_
      refine xl_skip rfl rfl rfl ?_
      refine xl_skip rfl rfl rfl ?_
      refine xl_skip rfl rfl rfl ?_
      refine xl_pure rfl rfl rfl (pv_pick_t (v := .bool _) rfl rfl rfl) ?_
      refine xl_nil ?_
      refine xthen_normal ?_
      refine xc_cond_t rfl ?_
      refine xc_seq ?_
      refine xc_region ?_
      refine xl_heavy rfl rfl rfl (hv_call (g := 7) rfl rfl (c7) rfl) ?_
      rintro v2_0 H2_0 ⟨rfl, hE2_0⟩
      refine xl_pure rfl rfl rfl (pv_assign (v := .bool _) rfl rfl) ?_
      refine xl_nil ?_
      refine xthen_normal ?_
      refine xc_ret ?_
      refine xthen_ret ?_
      refine fin_ret (res1 (v := .bool _) rfl rfl) ?_
      exact ⟨rfl, hE2_0⟩
    · skip
      refine xl_pure rfl rfl rfl (pv_pick_f (v := .bool _) rfl rfl rfl) ?_
      refine xl_pure rfl rfl rfl (pv_move (v := .bool _) rfl rfl) ?_
      refine xl_pure rfl rfl rfl (pv_move (v := .string (bs _)) rfl rfl) ?_
      refine xl_pure rfl rfl rfl (pv_len_s rfl rfl) ?_
      refine xl_dec rfl rfl rfl (pv_gtr rfl rfl rfl) (fun h1_11 => ?_) (fun h1_11 => ?_)
      · skip
        refine xl_pure rfl rfl rfl (pv_pick_f (v := .bool _) rfl rfl rfl) ?_
        refine xl_nil ?_
        refine xthen_normal ?_
        refine xc_cond_t rfl ?_
        refine xc_seq ?_
        refine xc_region ?_
        refine xl_heavy rfl rfl rfl (hv_call (g := 7) rfl rfl (c7) rfl) ?_
        rintro v2_0 H2_0 ⟨rfl, hE2_0⟩
        refine xl_pure rfl rfl rfl (pv_assign (v := .bool _) rfl rfl) ?_
        refine xl_nil ?_
        refine xthen_normal ?_
        refine xc_ret ?_
        refine xthen_ret ?_
        refine fin_ret (res1 (v := .bool _) rfl rfl) ?_
        exact ⟨rfl, hE2_0⟩
      · skip
        refine xl_pure rfl rfl rfl (pv_pick_f (v := .bool _) rfl rfl rfl) ?_
        refine xl_nil ?_
        refine xthen_normal ?_
        refine xc_cond_f rfl ?_
        refine xc_skip ?_
        refine xthen_normal ?_
        refine xc_seq ?_
        refine xc_region ?_
        refine xl_pure rfl rfl rfl (pv_assign (v := .string (bs _)) rfl rfl) ?_
        refine xl_nil ?_
        refine xthen_normal ?_
        refine xc_seq ?_
        refine xc_seq ?_
        refine xc_region ?_
        refine xl_pure rfl rfl rfl (pv_assign (v := .int _ _) rfl rfl) ?_
        refine xl_nil ?_
        refine xthen_normal ?_
        refine xc_block ?_
        refine xc_loop (τ := Nat) (fun t => [(0, .slice a xs.length ca), (1, .slice at' ts.length ct), (2, .string (bs s)), (7, .string (bs (encI (xs.take t)))), (8, .int .i64 (t : Nat))]) (fun t H' => t ≤ xs.length ∧ Ext H H') (fun t H' => xs.length - t) 0 ?_ ?_ ?_
        · exact ⟨rfl, rfl, rfl, rfl, rfl, trivial⟩
        · skip
          exact ⟨Nat.zero_le _, Ext.refl _⟩
        · intro σ
          rintro k Hl ⟨hk, hX⟩
          show XC _ _ _ (upds σ [(0, .slice a xs.length ca), (1, .slice at' ts.length ct), (2, .string (bs s)), (7, .string (bs (encI (xs.take k)))), (8, .int .i64 (k : Nat))]) _
          refine xc_seq ?_
          refine xc_seq ?_
          refine xc_region ?_
          refine xl_pure rfl rfl rfl (pv_move (v := .int _ _) rfl rfl) ?_
          refine xl_pure rfl rfl rfl (pv_move (v := .slice _ _ _) rfl rfl) ?_
          refine xl_pure rfl rfl rfl (pv_len_l rfl rfl) ?_
          refine xl_dec rfl rfl rfl (pv_lss rfl rfl rfl) (fun h5_3 => ?_) (fun h5_3 => ?_)
          · skip
            refine xl_nil ?_
            refine xthen_normal ?_
            refine xc_cond_t rfl ?_
            refine xc_skip ?_
            refine xthen_normal ?_
            refine xc_seq ?_
            refine xc_block ?_
            obtain ⟨ba, off, rfl, hxs⟩ := hl.resolve_left (by omega)
            have hrg := hrng k (by omega)
            refine xp_start rfl (by repeat (first | with_reducible exact np_fin | with_reducible refine np_then ?_ | with_reducible refine np_block ?_)) (by kernel_rfl) ?_
            refine xp_pure (i := 0) rfl (by kernel_rfl) (by kernel_rfl) rfl rfl rfl (pv_move (v := .string (bs _)) rfl rfl) ?_
            refine xp_pure (i := 1) rfl (by kernel_rfl) (by kernel_rfl) rfl rfl rfl (pv_move (v := .slice _ _ _) rfl rfl) ?_
            refine xp_pure (i := 2) rfl (by kernel_rfl) (by kernel_rfl) rfl rfl rfl (pv_move (v := .int _ _) rfl rfl) ?_
            refine xp_pure (i := 3) rfl (by kernel_rfl) (by kernel_rfl) rfl rfl rfl (pv_indexAddr_l rfl rfl rfl (by omega)) ?_
            refine xp_light (i := 4) rfl (by kernel_rfl) (by kernel_rfl) rfl rfl rfl (lv_load (v := .int _ _) rfl rfl (by first | exact cellAt_ext (hxs k (by omega)) hX | exact cellAt_ext (hts k (by omega)) hX)) ?_
            refine xp_pure (i := 7) rfl (by kernel_rfl) (by kernel_rfl) rfl rfl rfl (pv_move (v := .slice _ _ _) rfl rfl) ?_
            refine xp_pure (i := 8) rfl (by kernel_rfl) (by kernel_rfl) rfl rfl rfl (pv_move (v := .int _ _) rfl rfl) ?_
            refine xp_pure (i := 9) rfl (by kernel_rfl) (by kernel_rfl) rfl rfl rfl (pv_indexAddr_l rfl rfl rfl (by omega)) ?_
            refine xp_light (i := 10) rfl (by kernel_rfl) (by kernel_rfl) rfl rfl rfl (lv_load (v := .int _ _) rfl rfl (by first | exact cellAt_ext (hxs k (by omega)) hX | exact cellAt_ext (hts k (by omega)) hX)) ?_
            refine xp_pure (i := 11) rfl (by kernel_rfl) (by kernel_rfl) rfl rfl rfl (pv_max rfl rfl rfl) ?_
            refine xp_heavy (i := 5) (by kernel_rfl) ?_
            refine xph_val rfl rfl rfl rfl (hv_call (g := 10) rfl rfl (c10 _ hrg.1 hrg.2) rfl) (pk (by kernel_rfl) (pd (by kernel_rfl) pn)) ?_
            rintro v7_5 H7_5 ⟨rfl, hE7_5⟩
            have hX := hX.trans hE7_5
            refine ⟨(okc (lv_load (v := .int _ _) rfl rfl (by first | exact cellAt_ext (hxs k (by omega)) hX | exact cellAt_ext (hts k (by omega)) hX)) okn), ?_⟩
            refine xp_pure (i := 6) rfl (by kernel_rfl) (by kernel_rfl) rfl rfl rfl (pv_add_s rfl rfl rfl (pb1 xs k (by omega) _)) ?_
            refine xp_heavy (i := 12) (by kernel_rfl) ?_
            refine xph_val rfl rfl rfl rfl (hv_call (g := 8) rfl rfl (c8 _ (by omega)) rfl) (pk (by kernel_rfl) pn) ?_
            rintro v7_12 H7_12 ⟨rfl, hE7_12⟩
            have hX := hX.trans hE7_12
            refine ⟨(okc (lv_load (v := .int _ _) rfl rfl (by first | exact cellAt_ext (hxs k (by omega)) hX | exact cellAt_ext (hts k (by omega)) hX)) okn), ?_⟩
            refine xp_pure (i := 13) rfl (by kernel_rfl) (by kernel_rfl) rfl rfl rfl (pv_add_s rfl rfl rfl (pb2 xs k (by omega) _ _)) ?_
            refine xp_pure (i := 14) rfl (by kernel_rfl) (by kernel_rfl) rfl rfl rfl (pv_assign (v := .string (bs _)) rfl rfl) ?_
            refine xp_done (by kernel_rfl) ?_
            refine xblock_normal ?_
            refine xthen_normal ?_
            refine xc_region ?_
            refine xl_pure rfl rfl rfl (pv_move (v := .int _ _) rfl rfl) ?_
            refine xl_pure rfl rfl rfl (pv_add rfl rfl rfl (fit_i64 (by omega))) ?_
            refine xl_pure rfl rfl rfl (pv_assign (v := .int _ _) rfl rfl) ?_
            refine xl_nil ?_
            refine xthen_normal ?_
            exact ⟨k + 1, ⟨rfl, rfl, rfl, sv (encI_succ xs k (by omega)), rfl, trivial⟩, ⟨by omega, hX⟩, by omega⟩
          · skip
            refine xl_nil ?_
            refine xthen_normal ?_
            refine xc_cond_f rfl ?_
            refine xc_exit ?_
            refine xthen_exit ?_
            refine xthen_exit ?_
            refine xblock_same ?_
            refine xthen_normal ?_
            refine xc_seq ?_
            refine xc_seq ?_
            refine xc_region ?_
            refine xl_pure rfl rfl rfl (pv_assign (v := .int _ _) rfl rfl) ?_
            refine xl_nil ?_
            refine xthen_normal ?_
            refine xc_block ?_
            refine xc_loop (τ := Nat) (fun t => [(0, .slice a xs.length ca), (1, .slice at' ts.length ct), (2, .string (bs s)), (7, .string (bs (encI xs ++ encT (ts.take t)))), (9, .int .i64 (t : Nat))]) (fun t H' => t ≤ ts.length ∧ (∀ j, j < t → (ts.getD j []).length ≤ 256) ∧ Ext H H') (fun t H' => ts.length - t) 0 ?_ ?_ ?_
            · exact ⟨rfl, rfl, rfl, sv (by rw [show k = xs.length by omega]; simp [encT]), rfl, trivial⟩
            · skip
              exact ⟨Nat.zero_le _, fun _ h => absurd h (by omega), hX⟩
            · intro σ
              clear hX
              rintro k Hl ⟨hk, hsh, hX⟩
              show XC _ _ _ (upds σ [(0, .slice a xs.length ca), (1, .slice at' ts.length ct), (2, .string (bs s)), (7, .string (bs (encI xs ++ encT (ts.take k)))), (9, .int .i64 (k : Nat))]) _
              refine xc_seq ?_
              refine xc_seq ?_
              refine xc_region ?_
              refine xl_pure rfl rfl rfl (pv_move (v := .int _ _) rfl rfl) ?_
              refine xl_pure rfl rfl rfl (pv_move (v := .slice _ _ _) rfl rfl) ?_
              refine xl_pure rfl rfl rfl (pv_len_l rfl rfl) ?_
              refine xl_dec rfl rfl rfl (pv_lss rfl rfl rfl) (fun h9_3 => ?_) (fun h9_3 => ?_)
              · skip
                refine xl_nil ?_
                refine xthen_normal ?_
                refine xc_cond_t rfl ?_
                refine xc_skip ?_
                refine xthen_normal ?_
                refine xc_seq ?_
                refine xc_block ?_
                refine xc_seq ?_
                refine xc_seq ?_
                refine xc_region ?_
                obtain ⟨ba, off, rfl, hts⟩ := ht.resolve_left (by omega)
                refine xl_pure rfl rfl rfl (pv_move (v := .slice _ _ _) rfl rfl) ?_
                refine xl_pure rfl rfl rfl (pv_move (v := .int _ _) rfl rfl) ?_
                refine xl_pure rfl rfl rfl (pv_indexAddr_l rfl rfl rfl (by omega)) ?_
                refine xl_light rfl rfl rfl (lv_load (v := .string (bs _)) rfl rfl (by first | exact cellAt_ext (hxs k (by omega)) hX | exact cellAt_ext (hts k (by omega)) hX)) ?_
                refine xl_pure rfl rfl rfl (pv_len_s rfl rfl) ?_
                refine xl_dec rfl rfl rfl (pv_gtr rfl rfl rfl) (fun h11_5 => ?_) (fun h11_5 => ?_)
                · skip
                  refine xl_nil ?_
                  refine xthen_normal ?_
                  refine xc_cond_t rfl ?_
                  refine xc_seq ?_
                  refine xc_region ?_
                  refine xl_heavy rfl rfl rfl (hv_call (g := 7) rfl rfl (c7) rfl) ?_
                  rintro v12_0 H12_0 ⟨rfl, hE12_0⟩
                  refine xl_pure rfl rfl rfl (pv_assign (v := .bool _) rfl rfl) ?_
                  refine xl_nil ?_
                  refine xthen_normal ?_
                  refine xc_ret ?_
                  refine xthen_ret ?_
                  refine xblock_ret ?_
                  refine xthen_ret ?_
                  refine xthen_ret ?_
                  refine xblock_ret ?_
                  refine xthen_ret ?_
                  refine fin_ret (res1 (v := .bool _) rfl rfl) ?_
                  exact ⟨rfl, hX.trans hE12_0⟩
                · skip
                  refine xl_nil ?_
                  refine xthen_normal ?_
                  refine xc_cond_f rfl ?_
                  refine xc_skip ?_
                  refine xthen_normal ?_
                  refine xc_region ?_
                  refine xl_pure rfl rfl rfl (pv_move (v := .string (bs _)) rfl rfl) ?_
                  refine xl_pure rfl rfl rfl (pv_move (v := .slice _ _ _) rfl rfl) ?_
                  refine xl_pure rfl rfl rfl (pv_move (v := .int _ _) rfl rfl) ?_
                  refine xl_pure rfl rfl rfl (pv_indexAddr_l rfl rfl rfl (by omega)) ?_
                  refine xl_light rfl rfl rfl (lv_load (v := .string (bs _)) rfl rfl (by first | exact cellAt_ext (hxs k (by omega)) hX | exact cellAt_ext (hts k (by omega)) hX)) ?_
                  refine xl_heavy rfl rfl rfl (hv_call (g := 12) rfl rfl (c12 _ (by omega)) rfl) ?_
                  rintro v13_5 H13_5 ⟨rfl, hE13_5⟩
                  have hX := hX.trans hE13_5
                  refine xl_pure rfl rfl rfl (pv_add_s rfl rfl rfl (pb3 (by omega) (by omega) hsh _ (by omega))) ?_
                  refine xl_pure rfl rfl rfl (pv_assign (v := .string (bs _)) rfl rfl) ?_
                  refine xl_nil ?_
                  refine xblock_normal ?_
                  refine xthen_normal ?_
                  refine xc_region ?_
                  refine xl_pure rfl rfl rfl (pv_move (v := .int _ _) rfl rfl) ?_
                  refine xl_pure rfl rfl rfl (pv_add rfl rfl rfl (fit_i64 (by omega))) ?_
                  refine xl_pure rfl rfl rfl (pv_assign (v := .int _ _) rfl rfl) ?_
                  refine xl_nil ?_
                  refine xthen_normal ?_
                  exact ⟨k + 1, ⟨rfl, rfl, rfl, sv (encT_succ _ ts k (by omega)), rfl, trivial⟩, ⟨by omega, short_succ hsh (by omega), hX⟩, by omega⟩
              · skip
                refine xl_nil ?_
                refine xthen_normal ?_
                refine xc_cond_f rfl ?_
                refine xc_exit ?_
                refine xthen_exit ?_
                refine xthen_exit ?_
                refine xblock_same ?_
                refine xthen_normal ?_
                refine xc_seq ?_
                refine xc_region ?_
                have hX0 := hX
                have hsh := all_short hsh (by omega)
                refine xl_pure rfl rfl rfl (pv_move (v := .string (bs _)) rfl rfl) ?_
                refine xl_heavy rfl rfl rfl (hv_call (g := 14) rfl rfl (c14 _) rfl) ?_
                rintro v14_1 H14_1 ⟨b, rfl, hN⟩
                have hX := hX.trans hN.ext
                have hge := Nat.le_trans hX0.size hN.ge
                have hr := hN.blk
                refine xl_pure rfl rfl rfl (pv_assign (v := .pointer _) rfl rfl) ?_
                refine xl_nil ?_
                refine xthen_normal ?_
                refine xc_seq ?_
                refine xc_seq ?_
                refine xc_region ?_
                refine xl_pure rfl rfl rfl (pv_move (v := .pointer _) rfl rfl) ?_
                refine xl_pure rfl rfl rfl (pv_eql_pn rfl rfl rfl) ?_
                refine xl_nil ?_
                refine xthen_normal ?_
                refine xc_cond_f rfl ?_
                refine xc_skip ?_
                refine xthen_normal ?_
                refine xc_seq ?_
                refine xc_seq ?_
                refine xc_region ?_
                refine xl_pure rfl rfl rfl (pv_assign (v := .int _ _) rfl rfl) ?_
                refine xl_nil ?_
                refine xthen_normal ?_
                refine xc_block ?_
                refine xc_loop (τ := Nat) (fun t => [(0, .slice a xs.length ca), (1, .slice at' ts.length ct), (2, .string (bs s)), (10, .pointer (some ⟨b, 0, none⟩)), (11, .int .i64 (t : Nat))]) (fun t H' => t ≤ xs.length ∧ Blk H' b [.string (bs (encI (xs.drop t) ++ encT ts)), .bool false, .bool true] 41 ∧ Ext H H') (fun t H' => xs.length - t) 0 ?_ ?_ ?_
                · exact ⟨rfl, rfl, rfl, rfl, rfl, trivial⟩
                · skip
                  exact ⟨Nat.zero_le _, hr_enc hr (by rw [show k = ts.length by omega]; simp), hX⟩
                · intro σ
                  clear hX hr
                  rintro k Hl ⟨hk, hr, hX⟩
                  show XC _ _ _ (upds σ [(0, .slice a xs.length ca), (1, .slice at' ts.length ct), (2, .string (bs s)), (10, .pointer (some ⟨b, 0, none⟩)), (11, .int .i64 (k : Nat))]) _
                  refine xc_seq ?_
                  refine xc_seq ?_
                  refine xc_region ?_
                  refine xl_pure rfl rfl rfl (pv_move (v := .int _ _) rfl rfl) ?_
                  refine xl_pure rfl rfl rfl (pv_move (v := .slice _ _ _) rfl rfl) ?_
                  refine xl_pure rfl rfl rfl (pv_len_l rfl rfl) ?_
                  refine xl_dec rfl rfl rfl (pv_lss rfl rfl rfl) (fun h18_3 => ?_) (fun h18_3 => ?_)
                  · skip
                    refine xl_nil ?_
                    refine xthen_normal ?_
                    refine xc_cond_t rfl ?_
                    refine xc_skip ?_
                    refine xthen_normal ?_
                    refine xc_seq ?_
                    refine xc_block ?_
                    refine xc_seq ?_
                    obtain ⟨ba, off, rfl, hxs⟩ := hl.resolve_left (by omega)
                    have hrg := hrng k (by omega)
                    have hr := hr_enc hr (encI_cons xs k (by omega) _)
                    refine xp_start rfl (by repeat (first | with_reducible exact np_fin | with_reducible refine np_then ?_ | with_reducible refine np_block ?_)) (by kernel_rfl) ?_
                    refine xp_pure (i := 0) rfl (by kernel_rfl) (by kernel_rfl) rfl rfl rfl (pv_move (v := .pointer _) rfl rfl) ?_
                    refine xp_pure (i := 2) rfl (by kernel_rfl) (by kernel_rfl) rfl rfl rfl (pv_move (v := .slice _ _ _) rfl rfl) ?_
                    refine xp_pure (i := 3) rfl (by kernel_rfl) (by kernel_rfl) rfl rfl rfl (pv_move (v := .int _ _) rfl rfl) ?_
                    refine xp_pure (i := 4) rfl (by kernel_rfl) (by kernel_rfl) rfl rfl rfl (pv_indexAddr_l rfl rfl rfl (by omega)) ?_
                    refine xp_light (i := 5) rfl (by kernel_rfl) (by kernel_rfl) rfl rfl rfl (lv_load (v := .int _ _) rfl rfl (by first | exact cellAt_ext (hxs k (by omega)) hX | exact cellAt_ext (hts k (by omega)) hX)) ?_
                    refine xp_heavy (i := 1) (by kernel_rfl) ?_
                    refine xph_val rfl rfl rfl rfl (hv_call (g := 17) rfl rfl (c17 hr) rfl) (pk (by kernel_rfl) pn) ?_
                    rintro v20_1 H20_1 ⟨n20_1, l20_1, bad20_1, hw20_1, rfl, hU20_1⟩
                    have e20_1 := hw20_1.symm.trans (int_back _ hrg.1 hrg.2)
                    simp only [Prod.mk.injEq] at e20_1
                    obtain ⟨rfl, rfl, rfl⟩ := e20_1
                    have hX := hX.ofBut hU20_1.but hge
                    have hr := hU20_1.blk
                    refine ⟨(okc (lv_load (v := .int _ _) rfl rfl (by first | exact cellAt_ext (hxs k (by omega)) hX | exact cellAt_ext (hts k (by omega)) hX)) okn), ?_⟩
                    refine xp_ndec (i := 6) rfl (by kernel_rfl) (by kernel_rfl) rfl rfl rfl (pv_neq rfl rfl rfl) (fun h20_6 => ?_) (fun h20_6 => ?_)
                    · skip
                      refine xp_pure (i := 7) rfl (by kernel_rfl) (by kernel_rfl) rfl rfl rfl (pv_move (v := .bool _) rfl rfl) ?_
                      refine xp_pure (i := 8) rfl (by kernel_rfl) (by kernel_rfl) rfl rfl rfl (pv_move (v := .pointer _) rfl rfl) ?_
                      refine xp_pure (i := 10) rfl (by kernel_rfl) (by kernel_rfl) rfl rfl rfl (pv_move (v := .slice _ _ _) rfl rfl) ?_
                      refine xp_pure (i := 11) rfl (by kernel_rfl) (by kernel_rfl) rfl rfl rfl (pv_move (v := .int _ _) rfl rfl) ?_
                      refine xp_pure (i := 12) rfl (by kernel_rfl) (by kernel_rfl) rfl rfl rfl (pv_indexAddr_l rfl rfl rfl (by omega)) ?_
                      refine xp_light (i := 13) rfl (by kernel_rfl) (by kernel_rfl) rfl rfl rfl (lv_load (v := .int _ _) rfl rfl (by first | exact cellAt_ext (hxs k (by omega)) hX | exact cellAt_ext (hts k (by omega)) hX)) ?_
                      refine xp_pure (i := 14) rfl (by kernel_rfl) (by kernel_rfl) rfl rfl rfl (pv_max rfl rfl rfl) ?_
                      refine xp_heavy (i := 9) (by kernel_rfl) ?_
                      refine xph_val rfl rfl rfl rfl (hv_call (g := 15) rfl rfl (c15 hr _) rfl) (pk (by kernel_rfl) (pk (by kernel_rfl) pn)) ?_
                      rintro v20_9 H20_9 ⟨n20_9, l20_9, bad20_9, hw20_9, hn20_9, rfl, hU20_9⟩
                      have e20_9 := hw20_9.symm.trans (uint_back _ (by omega) (by omega))
                      simp only [Prod.mk.injEq] at e20_9
                      obtain ⟨rfl, rfl, rfl⟩ := e20_9
                      have hX := hX.ofBut hU20_9.but hge
                      have hr := hU20_9.blk
                      refine ⟨(okc (lv_load (v := .int _ _) rfl rfl (by first | exact cellAt_ext (hxs k (by omega)) hX | exact cellAt_ext (hts k (by omega)) hX)) (okc (lv_load (v := .int _ _) rfl rfl (by first | exact cellAt_ext (hxs k (by omega)) hX | exact cellAt_ext (hts k (by omega)) hX)) okn)), ?_⟩
                      refine xp_ndec (i := 15) rfl (by kernel_rfl) (by kernel_rfl) rfl rfl rfl (pv_neq rfl rfl rfl) (fun h20_15 => ?_) (fun h20_15 => ?_)
                      · skip
                        refine xp_pure (i := 16) rfl (by kernel_rfl) (by kernel_rfl) rfl rfl rfl (pv_pick_f (v := .bool _) rfl rfl rfl) ?_
                        refine xp_done (by kernel_rfl) ?_
                        refine xthen_normal ?_
                        refine xc_cond_f rfl ?_
                        refine xc_skip ?_
                        refine xblock_normal ?_
                        refine xthen_normal ?_
                        refine xc_region ?_
                        refine xl_pure rfl rfl rfl (pv_move (v := .int _ _) rfl rfl) ?_
                        refine xl_pure rfl rfl rfl (pv_add rfl rfl rfl (fit_i64 (by omega))) ?_
                        refine xl_pure rfl rfl rfl (pv_assign (v := .int _ _) rfl rfl) ?_
                        refine xl_nil ?_
                        refine xthen_normal ?_
                        exact ⟨k + 1, ⟨rfl, rfl, rfl, rfl, rfl, trivial⟩, ⟨by omega, hr, hX⟩, by omega⟩
                      · exact absurd (by omega) h20_15
                    · exact absurd rfl h20_6
                  · skip
                    refine xl_nil ?_
                    refine xthen_normal ?_
                    refine xc_cond_f rfl ?_
                    refine xc_exit ?_
                    refine xthen_exit ?_
                    refine xthen_exit ?_
                    refine xblock_same ?_
                    refine xthen_normal ?_
                    refine xc_seq ?_
                    refine xc_seq ?_
                    refine xc_region ?_
                    refine xl_pure rfl rfl rfl (pv_assign (v := .int _ _) rfl rfl) ?_
                    refine xl_nil ?_
                    refine xthen_normal ?_
                    refine xc_block ?_
                    refine xc_loop (τ := Nat) (fun t => [(1, .slice at' ts.length ct), (2, .string (bs s)), (10, .pointer (some ⟨b, 0, none⟩)), (12, .int .i64 (t : Nat))]) (fun t H' => t ≤ ts.length ∧ Blk H' b [.string (bs (encT (ts.drop t))), .bool false, .bool true] 41 ∧ Ext H H') (fun t H' => ts.length - t) 0 ?_ ?_ ?_
                    · exact ⟨rfl, rfl, rfl, rfl, trivial⟩
                    · skip
                      exact ⟨Nat.zero_le _, hr_enc hr (by rw [show k = xs.length by omega]; simp [encI]), hX⟩
                    · intro σ
                      clear hX hr
                      rintro k Hl ⟨hk, hr, hX⟩
                      show XC _ _ _ (upds σ [(1, .slice at' ts.length ct), (2, .string (bs s)), (10, .pointer (some ⟨b, 0, none⟩)), (12, .int .i64 (k : Nat))]) _
                      refine xc_seq ?_
                      refine xc_seq ?_
                      refine xc_region ?_
                      refine xl_pure rfl rfl rfl (pv_move (v := .int _ _) rfl rfl) ?_
                      refine xl_pure rfl rfl rfl (pv_move (v := .slice _ _ _) rfl rfl) ?_
                      refine xl_pure rfl rfl rfl (pv_len_l rfl rfl) ?_
                      refine xl_dec rfl rfl rfl (pv_lss rfl rfl rfl) (fun h23_3 => ?_) (fun h23_3 => ?_)
                      · skip
                        refine xl_nil ?_
                        refine xthen_normal ?_
                        refine xc_cond_t rfl ?_
                        refine xc_skip ?_
                        refine xthen_normal ?_
                        refine xc_seq ?_
                        refine xc_block ?_
                        refine xc_seq ?_
                        obtain ⟨ba, off, rfl, hts⟩ := ht.resolve_left (by omega)
                        have hr := hr_enc hr (encT_cons ts k (by omega))
                        refine xp_start rfl (by repeat (first | with_reducible exact np_fin | with_reducible refine np_then ?_ | with_reducible refine np_block ?_)) (by kernel_rfl) ?_
                        refine xp_pure (i := 0) rfl (by kernel_rfl) (by kernel_rfl) rfl rfl rfl (pv_move (v := .pointer _) rfl rfl) ?_
                        refine xp_pure (i := 2) rfl (by kernel_rfl) (by kernel_rfl) rfl rfl rfl (pv_move (v := .slice _ _ _) rfl rfl) ?_
                        refine xp_pure (i := 3) rfl (by kernel_rfl) (by kernel_rfl) rfl rfl rfl (pv_move (v := .int _ _) rfl rfl) ?_
                        refine xp_pure (i := 4) rfl (by kernel_rfl) (by kernel_rfl) rfl rfl rfl (pv_indexAddr_l rfl rfl rfl (by omega)) ?_
                        refine xp_light (i := 5) rfl (by kernel_rfl) (by kernel_rfl) rfl rfl rfl (lv_load (v := .string (bs _)) rfl rfl (by first | exact cellAt_ext (hxs k (by omega)) hX | exact cellAt_ext (hts k (by omega)) hX)) ?_
                        refine xp_heavy (i := 1) (by kernel_rfl) ?_
                        refine xph_val rfl rfl rfl rfl (hv_call (g := 19) rfl rfl (c19 hr _) rfl) (pk (by kernel_rfl) pn) ?_
                        rintro v25_1 H25_1 ⟨n25_1, l25_1, bad25_1, hw25_1, rfl, hU25_1⟩
                        have e25_1 := hw25_1.symm.trans (text_back _ _ (hsh k (by omega)))
                        simp only [Prod.mk.injEq] at e25_1
                        obtain ⟨rfl, rfl, rfl⟩ := e25_1
                        have hX := hX.ofBut hU25_1.but hge
                        have hr := hU25_1.blk
                        refine ⟨(okc (lv_load (v := .string (bs _)) rfl rfl (by first | exact cellAt_ext (hxs k (by omega)) hX | exact cellAt_ext (hts k (by omega)) hX)) okn), ?_⟩
                        refine xp_ndec (i := 6) rfl (by kernel_rfl) (by kernel_rfl) rfl rfl rfl (pv_neq_s rfl rfl rfl) (fun h25_6 => ?_) (fun h25_6 => ?_)
                        · skip
                          refine xp_done (by kernel_rfl) ?_
                          refine xthen_normal ?_
                          refine xc_cond_f rfl ?_
                          refine xc_skip ?_
                          refine xblock_normal ?_
                          refine xthen_normal ?_
                          refine xc_region ?_
                          refine xl_pure rfl rfl rfl (pv_move (v := .int _ _) rfl rfl) ?_
                          refine xl_pure rfl rfl rfl (pv_add rfl rfl rfl (fit_i64 (by omega))) ?_
                          refine xl_pure rfl rfl rfl (pv_assign (v := .int _ _) rfl rfl) ?_
                          refine xl_nil ?_
                          refine xthen_normal ?_
                          exact ⟨k + 1, ⟨rfl, rfl, rfl, rfl, trivial⟩, ⟨by omega, hr, hX⟩, by omega⟩
                        · exact absurd rfl h25_6
                      · skip
                        refine xl_nil ?_
                        refine xthen_normal ?_
                        refine xc_cond_f rfl ?_
                        refine xc_exit ?_
                        refine xthen_exit ?_
                        refine xthen_exit ?_
                        refine xblock_same ?_
                        refine xthen_normal ?_
                        refine xc_seq ?_
                        refine xc_seq ?_
                        refine xc_region ?_
                        have hr := hr_enc hr (show encT (ts.drop k) = [] by rw [show k = ts.length by omega]; simp [encT])
                        refine xl_pure rfl rfl rfl (pv_move (v := .pointer _) rfl rfl) ?_
                        refine xl_heavy rfl rfl rfl (hv_call (g := 26) rfl rfl (c26 hr) rfl) ?_
                        rintro v27_1 H27_1 ⟨rfl, rfl⟩
                        refine xl_pure rfl rfl rfl (pv_not rfl rfl) ?_
                        refine xl_nil ?_
                        refine xthen_normal ?_
                        refine xc_cond_f rfl ?_
                        refine xc_skip ?_
                        refine xthen_normal ?_
                        refine xc_seq ?_
                        refine xc_region ?_
                        refine xl_pure rfl rfl rfl (pv_move (v := .string (bs _)) rfl rfl) ?_
                        refine xl_heavy rfl rfl rfl (hv_call (g := 14) rfl rfl (c14 _) rfl) ?_
                        rintro v29_1 H29_1 ⟨x, rfl, hN1⟩
                        have hgx := Nat.le_trans hX.size hN1.ge
                        have hX := hX.trans hN1.ext
                        have hrx := hN1.blk
                        refine xl_pure rfl rfl rfl (pv_move (v := .string (bs _)) rfl rfl) ?_
                        refine xl_heavy rfl rfl rfl (hv_call (g := 14) rfl rfl (c14 _) rfl) ?_
                        rintro v29_3 H29_3 ⟨y, rfl, hN2⟩
                        have hgy := Nat.le_trans hX.size hN2.ge
                        have hX := hX.trans hN2.ext
                        have hne := hrx.fresh hN2.ge
                        have hrx := hrx.ext hN2.ext
                        have hry := hN2.blk
                        refine xl_pure rfl rfl rfl (pv_assign (v := .pointer _) rfl rfl) ?_
                        refine xl_pure rfl rfl rfl (pv_assign (v := .pointer _) rfl rfl) ?_
                        refine xl_nil ?_
                        refine xthen_normal ?_
                        refine xc_seq ?_
                        refine xc_seq ?_
                        refine xc_region ?_
                        refine xl_pure rfl rfl rfl (pv_move (v := .pointer _) rfl rfl) ?_
                        refine xl_pure rfl rfl rfl (pv_eql_pn rfl rfl rfl) ?_
                        refine xl_pure rfl rfl rfl (pv_move (v := .bool _) rfl rfl) ?_
                        refine xl_pure rfl rfl rfl (pv_move (v := .pointer _) rfl rfl) ?_
                        refine xl_pure rfl rfl rfl (pv_eql_pn rfl rfl rfl) ?_
                        refine xl_pure rfl rfl rfl (pv_pick_f (v := .bool _) rfl rfl rfl) ?_
                        refine xl_nil ?_
                        refine xthen_normal ?_
                        refine xc_cond_f rfl ?_
                        refine xc_skip ?_
                        refine xthen_normal ?_
                        refine xc_seq ?_
                        refine xc_region ?_
                        refine xl_pure rfl rfl rfl (pv_move (v := .pointer _) rfl rfl) ?_
                        refine xl_heavy rfl rfl rfl (hv_call (g := 15) rfl rfl (c15 hrx _) rfl) ?_
                        rintro v32_1 H32_1 ⟨n, lx, badx, hwx, hn, rfl, hU⟩
                        have hX := hX.ofBut hU.but hgx
                        have hrx := hU.blk
                        have hry := hry.but hU.but hne.symm
                        have hlx := uint_left hwx
                        refine xl_pure rfl rfl rfl (pv_move (v := .pointer _) rfl rfl) ?_
                        refine xl_heavy rfl rfl rfl (hv_call (g := 17) rfl rfl (c17 hry) rfl) ?_
                        rintro v32_3 H32_3 ⟨m, ly, bady, hwy, rfl, hV⟩
                        have hX := hX.ofBut hV.but hgy
                        have hry := hV.blk
                        have hrx := hrx.but hV.but hne
                        have hly := int_left hwy
                        refine xl_pure rfl rfl rfl (pv_assign (v := .int _ _) rfl rfl) ?_
                        refine xl_pure rfl rfl rfl (pv_assign (v := .int _ _) rfl rfl) ?_
                        refine xl_nil ?_
                        refine xthen_normal ?_
                        refine xc_seq ?_
                        refine xc_seq ?_
                        refine xc_region ?_
                        refine xl_pure rfl rfl rfl (pv_move (v := .pointer _) rfl rfl) ?_
                        refine xl_heavy rfl rfl rfl (hv_call (g := 23) rfl rfl (c23 hrx) rfl) ?_
                        rintro v33_1 H33_1 ⟨rfl, rfl⟩
                        refine xl_dec rfl rfl rfl (pv_lss rfl rfl rfl) (fun h33_2 => ?_) (fun h33_2 => ?_)
                        · (unfold leftS at h33_2; split at h33_2 <;> omega)
                        · skip
                          refine xl_pure rfl rfl rfl (pv_move (v := .bool _) rfl rfl) ?_
                          refine xl_pure rfl rfl rfl (pv_move (v := .pointer _) rfl rfl) ?_
                          refine xl_heavy rfl rfl rfl (hv_call (g := 23) rfl rfl (c23 hrx) rfl) ?_
                          rintro v33_5 H33_5 ⟨rfl, rfl⟩
                          refine xl_pure rfl rfl rfl (pv_move (v := .string (bs _)) rfl rfl) ?_
                          refine xl_pure rfl rfl rfl (pv_len_s rfl rfl) ?_
                          refine xl_dec rfl rfl rfl (pv_gtr rfl rfl rfl) (fun h33_8 => ?_) (fun h33_8 => ?_)
                          · (have := hlx.1; unfold leftS at h33_8; split at h33_8 <;> simp at h33_8 <;> omega)
                          · skip
                            refine xl_pure rfl rfl rfl (pv_pick_f (v := .bool _) rfl rfl rfl) ?_
                            refine xl_pure rfl rfl rfl (pv_move (v := .bool _) rfl rfl) ?_
                            refine xl_pure rfl rfl rfl (pv_move (v := .pointer _) rfl rfl) ?_
                            refine xl_heavy rfl rfl rfl (hv_call (g := 23) rfl rfl (c23 hry) rfl) ?_
                            rintro v33_12 H33_12 ⟨rfl, rfl⟩
                            refine xl_dec rfl rfl rfl (pv_lss rfl rfl rfl) (fun h33_13 => ?_) (fun h33_13 => ?_)
                            · (unfold leftS at h33_13; split at h33_13 <;> omega)
                            · skip
                              refine xl_pure rfl rfl rfl (pv_pick_f (v := .bool _) rfl rfl rfl) ?_
                              refine xl_pure rfl rfl rfl (pv_move (v := .bool _) rfl rfl) ?_
                              refine xl_pure rfl rfl rfl (pv_move (v := .pointer _) rfl rfl) ?_
                              refine xl_heavy rfl rfl rfl (hv_call (g := 23) rfl rfl (c23 hry) rfl) ?_
                              rintro v33_17 H33_17 ⟨rfl, rfl⟩
                              refine xl_pure rfl rfl rfl (pv_move (v := .string (bs _)) rfl rfl) ?_
                              refine xl_pure rfl rfl rfl (pv_len_s rfl rfl) ?_
                              refine xl_dec rfl rfl rfl (pv_gtr rfl rfl rfl) (fun h33_20 => ?_) (fun h33_20 => ?_)
                              · (have := hly.1; unfold leftS at h33_20; split at h33_20 <;> simp at h33_20 <;> omega)
                              · skip
                                refine xl_pure rfl rfl rfl (pv_pick_f (v := .bool _) rfl rfl rfl) ?_
                                refine xl_nil ?_
                                refine xthen_normal ?_
                                refine xc_cond_f rfl ?_
                                refine xc_skip ?_
                                refine xthen_normal ?_
                                refine xc_seq ?_
                                refine xc_seq ?_
                                refine xc_region ?_
                                refine xl_pure rfl rfl rfl (pv_move (v := .pointer _) rfl rfl) ?_
                                refine xl_heavy rfl rfl rfl (hv_call (g := 25) rfl rfl (c25 hrx) rfl) ?_
                                rintro v35_1 H35_1 ⟨rfl, rfl⟩
                                cases badx
                                · skip
                                  refine xl_pure rfl rfl rfl (pv_not rfl rfl) ?_
                                  refine xl_pure rfl rfl rfl (pv_move (v := .bool _) rfl rfl) ?_
                                  refine xl_pure rfl rfl rfl (pv_move (v := .int _ _) rfl rfl) ?_
                                  refine xl_heavy rfl rfl rfl (hv_call (g := 8) rfl rfl (c8 _ (by omega)) rfl) ?_
                                  rintro v35_5 H35_5 ⟨rfl, hE35_5⟩
                                  have hX := hX.trans hE35_5
                                  have hrx := hrx.ext hE35_5
                                  have hry := hry.ext hE35_5
                                  refine xl_pure rfl rfl rfl (pv_move (v := .string (bs _)) rfl rfl) ?_
                                  refine xl_pure rfl rfl rfl (pv_move (v := .string (bs _)) rfl rfl) ?_
                                  refine xl_pure rfl rfl rfl (pv_len_s rfl rfl) ?_
                                  refine xl_pure rfl rfl rfl (pv_move (v := .pointer _) rfl rfl) ?_
                                  refine xl_heavy rfl rfl rfl (hv_call (g := 23) rfl rfl (c23 hrx) rfl) ?_
                                  rintro v35_10 H35_10 ⟨rfl, rfl⟩
                                  refine xl_pure rfl rfl rfl (pv_sub rfl rfl rfl (fit_i64 (by omega))) ?_
                                  refine xl_pure rfl rfl rfl (pv_slice_s rfl rfl (.some rfl (by omega)) (.none _) (by omega)) ?_
                                  refine xl_ndec rfl rfl rfl (pv_neq_s rfl rfl rfl) (fun h35_13 => ?_) (fun h35_13 => ?_)
                                  · skip
                                    refine xl_pure rfl rfl rfl (pv_pick_t (v := .bool _) rfl rfl rfl) ?_
                                    refine xl_pure rfl rfl rfl (pv_move (v := .bool _) rfl rfl) ?_
                                    refine xl_pure rfl rfl rfl (pv_move (v := .pointer _) rfl rfl) ?_
                                    refine xl_heavy rfl rfl rfl (hv_call (g := 25) rfl rfl (c25 hry) rfl) ?_
                                    rintro v35_17 H35_17 ⟨rfl, rfl⟩
                                    cases bady
                                    · skip
                                      refine xl_pure rfl rfl rfl (pv_not rfl rfl) ?_
                                      refine xl_pure rfl rfl rfl (pv_move (v := .bool _) rfl rfl) ?_
                                      refine xl_pure rfl rfl rfl (pv_move (v := .int _ _) rfl rfl) ?_
                                      refine xl_heavy rfl rfl rfl (hv_call (g := 10) rfl rfl (c10 _ hly.2.1.1 hly.2.1.2) rfl) ?_
                                      rintro v35_21 H35_21 ⟨rfl, hE35_21⟩
                                      have hX := hX.trans hE35_21
                                      have hry := hry.ext hE35_21
                                      refine xl_pure rfl rfl rfl (pv_move (v := .string (bs _)) rfl rfl) ?_
                                      refine xl_pure rfl rfl rfl (pv_move (v := .string (bs _)) rfl rfl) ?_
                                      refine xl_pure rfl rfl rfl (pv_len_s rfl rfl) ?_
                                      refine xl_pure rfl rfl rfl (pv_move (v := .pointer _) rfl rfl) ?_
                                      refine xl_heavy rfl rfl rfl (hv_call (g := 23) rfl rfl (c23 hry) rfl) ?_
                                      rintro v35_26 H35_26 ⟨rfl, rfl⟩
                                      refine xl_pure rfl rfl rfl (pv_sub rfl rfl rfl (fit_i64 (by omega))) ?_
                                      refine xl_pure rfl rfl rfl (pv_slice_s rfl rfl (.some rfl (by omega)) (.none _) (by omega)) ?_
                                      refine xl_ndec rfl rfl rfl (pv_neq_s rfl rfl rfl) (fun h35_29 => ?_) (fun h35_29 => ?_)
                                      · skip
                                        refine xl_pure rfl rfl rfl (pv_pick_t (v := .bool _) rfl rfl rfl) ?_
                                        refine xl_pure rfl rfl rfl (pv_pick_f (v := .bool _) rfl rfl rfl) ?_
                                        refine xl_nil ?_
                                        refine xthen_normal ?_
                                        refine xc_cond_f rfl ?_
                                        refine xc_skip ?_
                                        refine xthen_normal ?_
                                        refine xc_seq ?_
                                        refine xc_region ?_
                                        refine xl_heavy rfl rfl rfl (hv_call (g := 7) rfl rfl (c7) rfl) ?_
                                        rintro v37_0 H37_0 ⟨rfl, hE37_0⟩
                                        refine xl_pure rfl rfl rfl (pv_assign (v := .bool _) rfl rfl) ?_
                                        refine xl_nil ?_
                                        refine xthen_normal ?_
                                        refine xc_ret ?_
                                        refine fin_ret (res1 (v := .bool _) rfl rfl) ?_
                                        exact ⟨rfl, hX.trans hE37_0⟩
                                      · exact absurd (can2 hly) h35_29
                                    · skip
                                      refine xl_pure rfl rfl rfl (pv_not rfl rfl) ?_
                                      refine xl_pure rfl rfl rfl (pv_move (v := .bool _) rfl rfl) ?_
                                      refine xl_skip rfl rfl rfl ?_
                                      refine xl_skip rfl rfl rfl ?_
                                      refine xl_skip rfl rfl rfl ?_
                                      refine xl_skip rfl rfl rfl ?_
                                      refine xl_skip rfl rfl rfl ?_
                                      refine xl_skip rfl rfl rfl ?_
                                      refine xl_skip rfl rfl rfl ?_
                                      refine xl_skip rfl rfl rfl ?_
                                      refine xl_skip rfl rfl rfl ?_
                                      refine xl_skip rfl rfl rfl ?_
                                      refine xl_pure rfl rfl rfl (pv_pick_f (v := .bool _) rfl rfl rfl) ?_
                                      refine xl_pure rfl rfl rfl (pv_pick_f (v := .bool _) rfl rfl rfl) ?_
                                      refine xl_nil ?_
                                      refine xthen_normal ?_
                                      refine xc_cond_f rfl ?_
                                      refine xc_skip ?_
                                      refine xthen_normal ?_
                                      refine xc_seq ?_
                                      refine xc_region ?_
                                      refine xl_heavy rfl rfl rfl (hv_call (g := 7) rfl rfl (c7) rfl) ?_
                                      rintro v37_0 H37_0 ⟨rfl, hE37_0⟩
                                      refine xl_pure rfl rfl rfl (pv_assign (v := .bool _) rfl rfl) ?_
                                      refine xl_nil ?_
                                      refine xthen_normal ?_
                                      refine xc_ret ?_
                                      refine fin_ret (res1 (v := .bool _) rfl rfl) ?_
                                      exact ⟨rfl, hX.trans hE37_0⟩
                                  · exact absurd (can1 hlx) h35_13
                                · skip
                                  refine xl_pure rfl rfl rfl (pv_not rfl rfl) ?_
                                  refine xl_pure rfl rfl rfl (pv_move (v := .bool _) rfl rfl) ?_
                                  refine xl_skip rfl rfl rfl ?_
                                  refine xl_skip rfl rfl rfl ?_
                                  refine xl_skip rfl rfl rfl ?_
                                  refine xl_skip rfl rfl rfl ?_
                                  refine xl_skip rfl rfl rfl ?_
                                  refine xl_skip rfl rfl rfl ?_
                                  refine xl_skip rfl rfl rfl ?_
                                  refine xl_skip rfl rfl rfl ?_
                                  refine xl_skip rfl rfl rfl ?_
                                  refine xl_skip rfl rfl rfl ?_
                                  refine xl_pure rfl rfl rfl (pv_pick_f (v := .bool _) rfl rfl rfl) ?_
                                  refine xl_pure rfl rfl rfl (pv_move (v := .bool _) rfl rfl) ?_
                                  refine xl_pure rfl rfl rfl (pv_move (v := .pointer _) rfl rfl) ?_
                                  refine xl_heavy rfl rfl rfl (hv_call (g := 25) rfl rfl (c25 hry) rfl) ?_
                                  rintro v35_17 H35_17 ⟨rfl, rfl⟩
                                  cases bady
                                  · skip
                                    refine xl_pure rfl rfl rfl (pv_not rfl rfl) ?_
                                    refine xl_pure rfl rfl rfl (pv_move (v := .bool _) rfl rfl) ?_
                                    refine xl_pure rfl rfl rfl (pv_move (v := .int _ _) rfl rfl) ?_
                                    refine xl_heavy rfl rfl rfl (hv_call (g := 10) rfl rfl (c10 _ hly.2.1.1 hly.2.1.2) rfl) ?_
                                    rintro v35_21 H35_21 ⟨rfl, hE35_21⟩
                                    have hX := hX.trans hE35_21
                                    have hry := hry.ext hE35_21
                                    refine xl_pure rfl rfl rfl (pv_move (v := .string (bs _)) rfl rfl) ?_
                                    refine xl_pure rfl rfl rfl (pv_move (v := .string (bs _)) rfl rfl) ?_
                                    refine xl_pure rfl rfl rfl (pv_len_s rfl rfl) ?_
                                    refine xl_pure rfl rfl rfl (pv_move (v := .pointer _) rfl rfl) ?_
                                    refine xl_heavy rfl rfl rfl (hv_call (g := 23) rfl rfl (c23 hry) rfl) ?_
                                    rintro v35_26 H35_26 ⟨rfl, rfl⟩
                                    refine xl_pure rfl rfl rfl (pv_sub rfl rfl rfl (fit_i64 (by omega))) ?_
                                    refine xl_pure rfl rfl rfl (pv_slice_s rfl rfl (.some rfl (by omega)) (.none _) (by omega)) ?_
                                    refine xl_ndec rfl rfl rfl (pv_neq_s rfl rfl rfl) (fun h35_29 => ?_) (fun h35_29 => ?_)
                                    · skip
                                      refine xl_pure rfl rfl rfl (pv_pick_t (v := .bool _) rfl rfl rfl) ?_
                                      refine xl_pure rfl rfl rfl (pv_pick_f (v := .bool _) rfl rfl rfl) ?_
                                      refine xl_nil ?_
                                      refine xthen_normal ?_
                                      refine xc_cond_f rfl ?_
                                      refine xc_skip ?_
                                      refine xthen_normal ?_
                                      refine xc_seq ?_
                                      refine xc_region ?_
                                      refine xl_heavy rfl rfl rfl (hv_call (g := 7) rfl rfl (c7) rfl) ?_
                                      rintro v37_0 H37_0 ⟨rfl, hE37_0⟩
                                      refine xl_pure rfl rfl rfl (pv_assign (v := .bool _) rfl rfl) ?_
                                      refine xl_nil ?_
                                      refine xthen_normal ?_
                                      refine xc_ret ?_
                                      refine fin_ret (res1 (v := .bool _) rfl rfl) ?_
                                      exact ⟨rfl, hX.trans hE37_0⟩
                                    · exact absurd (can2 hly) h35_29
                                  · skip
                                    refine xl_pure rfl rfl rfl (pv_not rfl rfl) ?_
                                    refine xl_pure rfl rfl rfl (pv_move (v := .bool _) rfl rfl) ?_
                                    refine xl_skip rfl rfl rfl ?_
                                    refine xl_skip rfl rfl rfl ?_
                                    refine xl_skip rfl rfl rfl ?_
                                    refine xl_skip rfl rfl rfl ?_
                                    refine xl_skip rfl rfl rfl ?_
                                    refine xl_skip rfl rfl rfl ?_
                                    refine xl_skip rfl rfl rfl ?_
                                    refine xl_skip rfl rfl rfl ?_
                                    refine xl_skip rfl rfl rfl ?_
                                    refine xl_skip rfl rfl rfl ?_
                                    refine xl_pure rfl rfl rfl (pv_pick_f (v := .bool _) rfl rfl rfl) ?_
                                    refine xl_pure rfl rfl rfl (pv_pick_f (v := .bool _) rfl rfl rfl) ?_
                                    refine xl_nil ?_
                                    refine xthen_normal ?_
                                    refine xc_cond_f rfl ?_
                                    refine xc_skip ?_
                                    refine xthen_normal ?_
                                    refine xc_seq ?_
                                    refine xc_region ?_
                                    refine xl_heavy rfl rfl rfl (hv_call (g := 7) rfl rfl (c7) rfl) ?_
                                    rintro v37_0 H37_0 ⟨rfl, hE37_0⟩
                                    refine xl_pure rfl rfl rfl (pv_assign (v := .bool _) rfl rfl) ?_
                                    refine xl_nil ?_
                                    refine xthen_normal ?_
                                    refine xc_ret ?_
                                    refine fin_ret (res1 (v := .bool _) rfl rfl) ?_
                                    exact ⟨rfl, hX.trans hE37_0⟩
end Go.XG
