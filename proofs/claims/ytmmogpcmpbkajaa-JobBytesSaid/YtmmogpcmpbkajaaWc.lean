/-
  Walks of the seat's functions over the logic XG: each function, what it computes. Printed by a program out of wip/walks.py.
-/
import Derived.Test.YtmmogpcmpbkajaaI
import Derived.Test.YtmmogpcmpbkajaaP
import Derived.Test.YtmmogpcmpbkajaaL
import Derived.Test.YtmmogpcmpbkajaaWa
import Derived.Test.YtmmogpcmpbkajaaWb
namespace Go.XG
open Go.Proofs
set_option maxRecDepth 4000
set_option maxHeartbeats 4000000
theorem c30 {O : Outer} {H : Heap} (j : J) (a : Option Addr) (c : Nat) (ht : j.time ≤ 1099511627776) :
    FnC Try.prog 30 #[.agg (jcs j a c).toArray] O H (fun v H' => ∃ r, v = .bool r ∧ (r = true ↔ Stands j) ∧ Ext H H') := by
  refine fn_enter (A := [.agg (jcs j a c).toArray]) Try.func30 rfl rfl ?_
  refine xc_seq ?_
  refine xc_region ?_
  refine xl_heavy rfl rfl rfl (hv_box rfl rfl) ?_
  rintro v0_0 H0_0 ⟨b0_0, rfl, hN0_0⟩
  refine xl_pure rfl rfl rfl (pv_assign (v := .bool _) rfl rfl) ?_
  refine xl_nil ?_
  refine xthen_normal ?_
  refine xc_cut (τ := Bool) (fun t => [(1, .pointer (some ⟨b0_0, 0, none⟩)), (3, .bool t)]) (fun t H' => (t = true ↔ j.beg = 0 ∧ j.fin = 0) ∧ H0_0 = H') ?_ ?_
  · skip
    refine xc_region ?_
    refine xl_pure rfl rfl rfl (pv_fieldAddr rfl rfl) ?_
    refine xl_light rfl rfl rfl (lv_load (v := .int _ _) rfl rfl (by first | exact ld_blk hN0_0.blk rfl)) ?_
    refine xl_dec rfl rfl rfl (pv_eql rfl rfl rfl) (fun h1_2 => ?_) (fun h1_2 => ?_)
    · skip
      refine xl_pure rfl rfl rfl (pv_move (v := .bool _) rfl rfl) ?_
      refine xl_pure rfl rfl rfl (pv_fieldAddr rfl rfl) ?_
      refine xl_light rfl rfl rfl (lv_load (v := .int _ _) rfl rfl (by first | exact ld_blk hN0_0.blk rfl)) ?_
      refine xl_dec rfl rfl rfl (pv_eql rfl rfl rfl) (fun h1_6 => ?_) (fun h1_6 => ?_)
      · skip
        refine xl_pure rfl rfl rfl (pv_pick_t (v := .bool _) rfl rfl rfl) ?_
        refine xl_pure rfl rfl rfl (pv_assign (v := .bool _) rfl rfl) ?_
        refine xl_nil ?_
        refine xthen_normal ?_
        exact ⟨_, ⟨rfl, rfl, trivial⟩, (by first | exact ⟨fun _ => by ((try unfold Stands at *); (try unfold Six at *); (try unfold Fiv at *); (try unfold Nums at *); (try unfold Cops at *); omega), fun _ => rfl⟩ | exact ⟨fun h => absurd h (by decide), fun h => by ((try unfold Stands at *); (try unfold Six at *); (try unfold Fiv at *); (try unfold Nums at *); (try unfold Cops at *); omega)⟩), rfl⟩
      · skip
        refine xl_pure rfl rfl rfl (pv_pick_t (v := .bool _) rfl rfl rfl) ?_
        refine xl_pure rfl rfl rfl (pv_assign (v := .bool _) rfl rfl) ?_
        refine xl_nil ?_
        refine xthen_normal ?_
        exact ⟨_, ⟨rfl, rfl, trivial⟩, (by first | exact ⟨fun _ => by ((try unfold Stands at *); (try unfold Six at *); (try unfold Fiv at *); (try unfold Nums at *); (try unfold Cops at *); omega), fun _ => rfl⟩ | exact ⟨fun h => absurd h (by decide), fun h => by ((try unfold Stands at *); (try unfold Six at *); (try unfold Fiv at *); (try unfold Nums at *); (try unfold Cops at *); omega)⟩), rfl⟩
    · skip
      refine xl_pure rfl rfl rfl (pv_move (v := .bool _) rfl rfl) ?_
      refine xl_skip rfl rfl rfl ?_
      refine xl_skip rfl rfl rfl ?_
      refine xl_skip rfl rfl rfl ?_
      refine xl_pure rfl rfl rfl (pv_pick_f (v := .bool _) rfl rfl rfl) ?_
      refine xl_pure rfl rfl rfl (pv_assign (v := .bool _) rfl rfl) ?_
      refine xl_nil ?_
      refine xthen_normal ?_
      exact ⟨_, ⟨rfl, rfl, trivial⟩, (by first | exact ⟨fun _ => by ((try unfold Stands at *); (try unfold Six at *); (try unfold Fiv at *); (try unfold Nums at *); (try unfold Cops at *); omega), fun _ => rfl⟩ | exact ⟨fun h => absurd h (by decide), fun h => by ((try unfold Stands at *); (try unfold Six at *); (try unfold Fiv at *); (try unfold Nums at *); (try unfold Cops at *); omega)⟩), rfl⟩
  · intro σ
    rintro nn Hm ⟨hnn, rfl⟩
    show XC _ _ _ (upds σ [(1, .pointer (some ⟨b0_0, 0, none⟩)), (3, .bool nn)]) _
    refine xc_cut (τ := Bool) (fun t => [(1, .pointer (some ⟨b0_0, 0, none⟩)), (3, .bool nn), (4, .bool t)]) (fun t H' => (t = true ↔ 0 ≤ j.beg ∧ j.beg ≤ 1099511627776) ∧ H0_0 = H') ?_ ?_
    · skip
      refine xc_region ?_
      refine xl_pure rfl rfl rfl (pv_fieldAddr rfl rfl) ?_
      refine xl_light rfl rfl rfl (lv_load (v := .int _ _) rfl rfl (by first | exact ld_blk hN0_0.blk rfl)) ?_
      refine xl_heavy rfl rfl rfl (hv_call (g := 28) rfl rfl (c28 _ _ _) rfl) ?_
      rintro v2_2 H2_2 ⟨r2_2, rfl, hb2_2, rfl⟩
      refine xl_pure rfl rfl rfl (pv_assign (v := .bool _) rfl rfl) ?_
      refine xl_nil ?_
      refine xthen_normal ?_
      exact ⟨_, ⟨rfl, rfl, rfl, trivial⟩, hb2_2, rfl⟩
    · intro σ
      rintro bg Hm ⟨hbg, rfl⟩
      show XC _ _ _ (upds σ [(1, .pointer (some ⟨b0_0, 0, none⟩)), (3, .bool nn), (4, .bool bg)]) _
      refine xc_cut (τ := Bool) (fun t => [(1, .pointer (some ⟨b0_0, 0, none⟩)), (3, .bool nn), (4, .bool bg), (5, .bool t)]) (fun t H' => (t = true ↔ 1 ≤ j.left ∧ j.left ≤ j.time) ∧ H0_0 = H') ?_ ?_
      · skip
        refine xc_region ?_
        refine xl_pure rfl rfl rfl (pv_fieldAddr rfl rfl) ?_
        refine xl_light rfl rfl rfl (lv_load (v := .int _ _) rfl rfl (by first | exact ld_blk hN0_0.blk rfl)) ?_
        refine xl_pure rfl rfl rfl (pv_fieldAddr rfl rfl) ?_
        refine xl_light rfl rfl rfl (lv_load (v := .int _ _) rfl rfl (by first | exact ld_blk hN0_0.blk rfl)) ?_
        refine xl_heavy rfl rfl rfl (hv_call (g := 28) rfl rfl (c28 _ _ _) rfl) ?_
        rintro v3_4 H3_4 ⟨r3_4, rfl, hb3_4, rfl⟩
        refine xl_pure rfl rfl rfl (pv_assign (v := .bool _) rfl rfl) ?_
        refine xl_nil ?_
        refine xthen_normal ?_
        exact ⟨_, ⟨rfl, rfl, rfl, rfl, trivial⟩, hb3_4, rfl⟩
      · intro σ
        rintro lf Hm ⟨hlf, rfl⟩
        show XC _ _ _ (upds σ [(1, .pointer (some ⟨b0_0, 0, none⟩)), (3, .bool nn), (4, .bool bg), (5, .bool lf)]) _
        refine xc_seq ?_
        refine xc_seq ?_
        refine xc_region ?_
        refine xl_pure rfl rfl rfl (pv_fieldAddr rfl rfl) ?_
        refine xl_light rfl rfl rfl (lv_load (v := .int _ _) rfl rfl (by first | exact ld_blk hN0_0.blk rfl)) ?_
        refine xl_nil ?_
        refine xthen_normal ?_
        refine xc_block ?_
        refine xc_seq ?_
        refine xc_seq ?_
        refine xc_region ?_
        refine xl_dec rfl rfl rfl (pv_eql rfl rfl rfl) (fun h5_0 => ?_) (fun h5_0 => ?_)
        · skip
          refine xl_pure rfl rfl rfl (pv_assign (v := .bool _) rfl rfl) ?_
          refine xl_nil ?_
          refine xthen_normal ?_
          refine xc_cond_t rfl ?_
          refine xc_skip ?_
          refine xthen_normal ?_
          refine xc_cond_t rfl ?_
          refine xc_seq ?_
          refine xc_region ?_
          refine xl_pure rfl rfl rfl (pv_move (v := .bool _) rfl rfl) ?_
          cases nn
          · skip
            replace hnn := mt hnn.2 (by decide)
            refine xl_pure rfl rfl rfl (pv_move (v := .bool _) rfl rfl) ?_
            refine xl_skip rfl rfl rfl ?_
            refine xl_pure rfl rfl rfl (pv_pick_f (v := .bool _) rfl rfl rfl) ?_
            refine xl_pure rfl rfl rfl (pv_assign (v := .bool _) rfl rfl) ?_
            refine xl_nil ?_
            refine xthen_normal ?_
            refine xc_ret ?_
            refine xblock_ret ?_
            refine xthen_ret ?_
            refine fin_ret (res1 (v := .bool _) rfl rfl) ?_
            exact ⟨_, rfl, (by first | exact ⟨fun _ => by ((try unfold Stands at *); (try unfold Six at *); (try unfold Fiv at *); (try unfold Nums at *); (try unfold Cops at *); omega), fun _ => rfl⟩ | exact ⟨fun h => absurd h (by decide), fun h => by ((try unfold Stands at *); (try unfold Six at *); (try unfold Fiv at *); (try unfold Nums at *); (try unfold Cops at *); omega)⟩), hN0_0.ext⟩
          · skip
            replace hnn := hnn.1 rfl
            refine xl_pure rfl rfl rfl (pv_move (v := .bool _) rfl rfl) ?_
            refine xl_pure rfl rfl rfl (pv_move (v := .bool _) rfl rfl) ?_
            cases lf
            · skip
              replace hlf := mt hlf.2 (by decide)
              refine xl_pure rfl rfl rfl (pv_pick_t (v := .bool _) rfl rfl rfl) ?_
              refine xl_pure rfl rfl rfl (pv_assign (v := .bool _) rfl rfl) ?_
              refine xl_nil ?_
              refine xthen_normal ?_
              refine xc_ret ?_
              refine xblock_ret ?_
              refine xthen_ret ?_
              refine fin_ret (res1 (v := .bool _) rfl rfl) ?_
              exact ⟨_, rfl, (by first | exact ⟨fun _ => by ((try unfold Stands at *); (try unfold Six at *); (try unfold Fiv at *); (try unfold Nums at *); (try unfold Cops at *); omega), fun _ => rfl⟩ | exact ⟨fun h => absurd h (by decide), fun h => by ((try unfold Stands at *); (try unfold Six at *); (try unfold Fiv at *); (try unfold Nums at *); (try unfold Cops at *); omega)⟩), hN0_0.ext⟩
            · skip
              replace hlf := hlf.1 rfl
              refine xl_pure rfl rfl rfl (pv_pick_t (v := .bool _) rfl rfl rfl) ?_
              refine xl_pure rfl rfl rfl (pv_assign (v := .bool _) rfl rfl) ?_
              refine xl_nil ?_
              refine xthen_normal ?_
              refine xc_ret ?_
              refine xblock_ret ?_
              refine xthen_ret ?_
              refine fin_ret (res1 (v := .bool _) rfl rfl) ?_
              exact ⟨_, rfl, (by first | exact ⟨fun _ => by ((try unfold Stands at *); (try unfold Six at *); (try unfold Fiv at *); (try unfold Nums at *); (try unfold Cops at *); omega), fun _ => rfl⟩ | exact ⟨fun h => absurd h (by decide), fun h => by ((try unfold Stands at *); (try unfold Six at *); (try unfold Fiv at *); (try unfold Nums at *); (try unfold Cops at *); omega)⟩), hN0_0.ext⟩
        · skip
          refine xl_pure rfl rfl rfl (pv_assign (v := .bool _) rfl rfl) ?_
          refine xl_nil ?_
          refine xthen_normal ?_
          refine xc_cond_f rfl ?_
          refine xc_region ?_
          refine xl_dec rfl rfl rfl (pv_eql rfl rfl rfl) (fun h6_0 => ?_) (fun h6_0 => ?_)
          · skip
            refine xl_pure rfl rfl rfl (pv_assign (v := .bool _) rfl rfl) ?_
            refine xl_nil ?_
            refine xthen_normal ?_
            refine xc_cond_t rfl ?_
            refine xc_seq ?_
            refine xc_region ?_
            refine xl_pure rfl rfl rfl (pv_move (v := .bool _) rfl rfl) ?_
            cases nn
            · skip
              replace hnn := mt hnn.2 (by decide)
              refine xl_pure rfl rfl rfl (pv_move (v := .bool _) rfl rfl) ?_
              refine xl_skip rfl rfl rfl ?_
              refine xl_pure rfl rfl rfl (pv_pick_f (v := .bool _) rfl rfl rfl) ?_
              refine xl_pure rfl rfl rfl (pv_assign (v := .bool _) rfl rfl) ?_
              refine xl_nil ?_
              refine xthen_normal ?_
              refine xc_ret ?_
              refine xblock_ret ?_
              refine xthen_ret ?_
              refine fin_ret (res1 (v := .bool _) rfl rfl) ?_
              exact ⟨_, rfl, (by first | exact ⟨fun _ => by ((try unfold Stands at *); (try unfold Six at *); (try unfold Fiv at *); (try unfold Nums at *); (try unfold Cops at *); omega), fun _ => rfl⟩ | exact ⟨fun h => absurd h (by decide), fun h => by ((try unfold Stands at *); (try unfold Six at *); (try unfold Fiv at *); (try unfold Nums at *); (try unfold Cops at *); omega)⟩), hN0_0.ext⟩
            · skip
              replace hnn := hnn.1 rfl
              refine xl_pure rfl rfl rfl (pv_move (v := .bool _) rfl rfl) ?_
              refine xl_pure rfl rfl rfl (pv_move (v := .bool _) rfl rfl) ?_
              cases lf
              · skip
                replace hlf := mt hlf.2 (by decide)
                refine xl_pure rfl rfl rfl (pv_pick_t (v := .bool _) rfl rfl rfl) ?_
                refine xl_pure rfl rfl rfl (pv_assign (v := .bool _) rfl rfl) ?_
                refine xl_nil ?_
                refine xthen_normal ?_
                refine xc_ret ?_
                refine xblock_ret ?_
                refine xthen_ret ?_
                refine fin_ret (res1 (v := .bool _) rfl rfl) ?_
                exact ⟨_, rfl, (by first | exact ⟨fun _ => by ((try unfold Stands at *); (try unfold Six at *); (try unfold Fiv at *); (try unfold Nums at *); (try unfold Cops at *); omega), fun _ => rfl⟩ | exact ⟨fun h => absurd h (by decide), fun h => by ((try unfold Stands at *); (try unfold Six at *); (try unfold Fiv at *); (try unfold Nums at *); (try unfold Cops at *); omega)⟩), hN0_0.ext⟩
              · skip
                replace hlf := hlf.1 rfl
                refine xl_pure rfl rfl rfl (pv_pick_t (v := .bool _) rfl rfl rfl) ?_
                refine xl_pure rfl rfl rfl (pv_assign (v := .bool _) rfl rfl) ?_
                refine xl_nil ?_
                refine xthen_normal ?_
                refine xc_ret ?_
                refine xblock_ret ?_
                refine xthen_ret ?_
                refine fin_ret (res1 (v := .bool _) rfl rfl) ?_
                exact ⟨_, rfl, (by first | exact ⟨fun _ => by ((try unfold Stands at *); (try unfold Six at *); (try unfold Fiv at *); (try unfold Nums at *); (try unfold Cops at *); omega), fun _ => rfl⟩ | exact ⟨fun h => absurd h (by decide), fun h => by ((try unfold Stands at *); (try unfold Six at *); (try unfold Fiv at *); (try unfold Nums at *); (try unfold Cops at *); omega)⟩), hN0_0.ext⟩
          · skip
            refine xl_pure rfl rfl rfl (pv_assign (v := .bool _) rfl rfl) ?_
            refine xl_nil ?_
            refine xthen_normal ?_
            refine xc_cond_f rfl ?_
            refine xc_seq ?_
            refine xc_region ?_
            refine xl_dec rfl rfl rfl (pv_eql rfl rfl rfl) (fun h8_0 => ?_) (fun h8_0 => ?_)
            · skip
              refine xl_pure rfl rfl rfl (pv_assign (v := .bool _) rfl rfl) ?_
              refine xl_nil ?_
              refine xthen_normal ?_
              refine xc_cond_t rfl ?_
              refine xc_seq ?_
              refine xc_region ?_
              refine xl_pure rfl rfl rfl (pv_move (v := .bool _) rfl rfl) ?_
              cases bg
              · skip
                replace hbg := mt hbg.2 (by decide)
                refine xl_pure rfl rfl rfl (pv_move (v := .bool _) rfl rfl) ?_
                refine xl_skip rfl rfl rfl ?_
                refine xl_pure rfl rfl rfl (pv_pick_f (v := .bool _) rfl rfl rfl) ?_
                refine xl_pure rfl rfl rfl (pv_move (v := .bool _) rfl rfl) ?_
                refine xl_skip rfl rfl rfl ?_
                refine xl_skip rfl rfl rfl ?_
                refine xl_skip rfl rfl rfl ?_
                refine xl_skip rfl rfl rfl ?_
                refine xl_skip rfl rfl rfl ?_
                refine xl_skip rfl rfl rfl ?_
                refine xl_skip rfl rfl rfl ?_
                refine xl_skip rfl rfl rfl ?_
                refine xl_pure rfl rfl rfl (pv_pick_f (v := .bool _) rfl rfl rfl) ?_
                refine xl_pure rfl rfl rfl (pv_assign (v := .bool _) rfl rfl) ?_
                refine xl_nil ?_
                refine xthen_normal ?_
                refine xc_ret ?_
                refine xblock_ret ?_
                refine xthen_ret ?_
                refine fin_ret (res1 (v := .bool _) rfl rfl) ?_
                exact ⟨_, rfl, (by first | exact ⟨fun _ => by ((try unfold Stands at *); (try unfold Six at *); (try unfold Fiv at *); (try unfold Nums at *); (try unfold Cops at *); omega), fun _ => rfl⟩ | exact ⟨fun h => absurd h (by decide), fun h => by ((try unfold Stands at *); (try unfold Six at *); (try unfold Fiv at *); (try unfold Nums at *); (try unfold Cops at *); omega)⟩), hN0_0.ext⟩
              · skip
                replace hbg := hbg.1 rfl
                refine xl_pure rfl rfl rfl (pv_move (v := .bool _) rfl rfl) ?_
                refine xl_pure rfl rfl rfl (pv_move (v := .bool _) rfl rfl) ?_
                cases lf
                · skip
                  replace hlf := mt hlf.2 (by decide)
                  refine xl_pure rfl rfl rfl (pv_pick_t (v := .bool _) rfl rfl rfl) ?_
                  refine xl_pure rfl rfl rfl (pv_move (v := .bool _) rfl rfl) ?_
                  refine xl_skip rfl rfl rfl ?_
                  refine xl_skip rfl rfl rfl ?_
                  refine xl_skip rfl rfl rfl ?_
                  refine xl_skip rfl rfl rfl ?_
                  refine xl_skip rfl rfl rfl ?_
                  refine xl_skip rfl rfl rfl ?_
                  refine xl_skip rfl rfl rfl ?_
                  refine xl_skip rfl rfl rfl ?_
                  refine xl_pure rfl rfl rfl (pv_pick_f (v := .bool _) rfl rfl rfl) ?_
                  refine xl_pure rfl rfl rfl (pv_assign (v := .bool _) rfl rfl) ?_
                  refine xl_nil ?_
                  refine xthen_normal ?_
                  refine xc_ret ?_
                  refine xblock_ret ?_
                  refine xthen_ret ?_
                  refine fin_ret (res1 (v := .bool _) rfl rfl) ?_
                  exact ⟨_, rfl, (by first | exact ⟨fun _ => by ((try unfold Stands at *); (try unfold Six at *); (try unfold Fiv at *); (try unfold Nums at *); (try unfold Cops at *); omega), fun _ => rfl⟩ | exact ⟨fun h => absurd h (by decide), fun h => by ((try unfold Stands at *); (try unfold Six at *); (try unfold Fiv at *); (try unfold Nums at *); (try unfold Cops at *); omega)⟩), hN0_0.ext⟩
                · skip
                  replace hlf := hlf.1 rfl
                  refine xl_pure rfl rfl rfl (pv_pick_t (v := .bool _) rfl rfl rfl) ?_
                  refine xl_pure rfl rfl rfl (pv_move (v := .bool _) rfl rfl) ?_
                  refine xl_pure rfl rfl rfl (pv_fieldAddr rfl rfl) ?_
                  refine xl_light rfl rfl rfl (lv_load (v := .int _ _) rfl rfl (by first | exact ld_blk hN0_0.blk rfl)) ?_
                  refine xl_pure rfl rfl rfl (pv_fieldAddr rfl rfl) ?_
                  refine xl_light rfl rfl rfl (lv_load (v := .int _ _) rfl rfl (by first | exact ld_blk hN0_0.blk rfl)) ?_
                  refine xl_pure rfl rfl rfl (pv_fieldAddr rfl rfl) ?_
                  refine xl_light rfl rfl rfl (lv_load (v := .int _ _) rfl rfl (by first | exact ld_blk hN0_0.blk rfl)) ?_
                  refine xl_pure rfl rfl rfl (pv_add rfl rfl rfl (fit_i64 (by omega))) ?_
                  refine xl_dec rfl rfl rfl (pv_eql rfl rfl rfl) (fun h9_12 => ?_) (fun h9_12 => ?_)
                  · skip
                    refine xl_pure rfl rfl rfl (pv_pick_t (v := .bool _) rfl rfl rfl) ?_
                    refine xl_pure rfl rfl rfl (pv_assign (v := .bool _) rfl rfl) ?_
                    refine xl_nil ?_
                    refine xthen_normal ?_
                    refine xc_ret ?_
                    refine xblock_ret ?_
                    refine xthen_ret ?_
                    refine fin_ret (res1 (v := .bool _) rfl rfl) ?_
                    exact ⟨_, rfl, (by first | exact ⟨fun _ => by ((try unfold Stands at *); (try unfold Six at *); (try unfold Fiv at *); (try unfold Nums at *); (try unfold Cops at *); omega), fun _ => rfl⟩ | exact ⟨fun h => absurd h (by decide), fun h => by ((try unfold Stands at *); (try unfold Six at *); (try unfold Fiv at *); (try unfold Nums at *); (try unfold Cops at *); omega)⟩), hN0_0.ext⟩
                  · skip
                    refine xl_pure rfl rfl rfl (pv_pick_t (v := .bool _) rfl rfl rfl) ?_
                    refine xl_pure rfl rfl rfl (pv_assign (v := .bool _) rfl rfl) ?_
                    refine xl_nil ?_
                    refine xthen_normal ?_
                    refine xc_ret ?_
                    refine xblock_ret ?_
                    refine xthen_ret ?_
                    refine fin_ret (res1 (v := .bool _) rfl rfl) ?_
                    exact ⟨_, rfl, (by first | exact ⟨fun _ => by ((try unfold Stands at *); (try unfold Six at *); (try unfold Fiv at *); (try unfold Nums at *); (try unfold Cops at *); omega), fun _ => rfl⟩ | exact ⟨fun h => absurd h (by decide), fun h => by ((try unfold Stands at *); (try unfold Six at *); (try unfold Fiv at *); (try unfold Nums at *); (try unfold Cops at *); omega)⟩), hN0_0.ext⟩
            · skip
              refine xl_pure rfl rfl rfl (pv_assign (v := .bool _) rfl rfl) ?_
              refine xl_nil ?_
              refine xthen_normal ?_
              refine xc_cond_f rfl ?_
              refine xc_seq ?_
              refine xc_seq ?_
              refine xc_region ?_
              refine xl_dec rfl rfl rfl (pv_eql rfl rfl rfl) (fun h10_0 => ?_) (fun h10_0 => ?_)
              · skip
                refine xl_pure rfl rfl rfl (pv_assign (v := .bool _) rfl rfl) ?_
                refine xl_nil ?_
                refine xthen_normal ?_
                refine xc_cond_t rfl ?_
                refine xc_skip ?_
                refine xthen_normal ?_
                refine xc_cond_t rfl ?_
                refine xc_seq ?_
                refine xc_region ?_
                refine xl_pure rfl rfl rfl (pv_move (v := .bool _) rfl rfl) ?_
                cases bg
                · skip
                  replace hbg := mt hbg.2 (by decide)
                  refine xl_pure rfl rfl rfl (pv_move (v := .bool _) rfl rfl) ?_
                  refine xl_skip rfl rfl rfl ?_
                  refine xl_skip rfl rfl rfl ?_
                  refine xl_skip rfl rfl rfl ?_
                  refine xl_skip rfl rfl rfl ?_
                  refine xl_skip rfl rfl rfl ?_
                  refine xl_pure rfl rfl rfl (pv_pick_f (v := .bool _) rfl rfl rfl) ?_
                  refine xl_pure rfl rfl rfl (pv_move (v := .bool _) rfl rfl) ?_
                  refine xl_skip rfl rfl rfl ?_
                  refine xl_skip rfl rfl rfl ?_
                  refine xl_skip rfl rfl rfl ?_
                  refine xl_pure rfl rfl rfl (pv_pick_f (v := .bool _) rfl rfl rfl) ?_
                  refine xl_pure rfl rfl rfl (pv_move (v := .bool _) rfl rfl) ?_
                  refine xl_skip rfl rfl rfl ?_
                  refine xl_skip rfl rfl rfl ?_
                  refine xl_skip rfl rfl rfl ?_
                  refine xl_pure rfl rfl rfl (pv_pick_f (v := .bool _) rfl rfl rfl) ?_
                  refine xl_pure rfl rfl rfl (pv_assign (v := .bool _) rfl rfl) ?_
                  refine xl_nil ?_
                  refine xthen_normal ?_
                  refine xc_ret ?_
                  refine xblock_ret ?_
                  refine xthen_ret ?_
                  refine fin_ret (res1 (v := .bool _) rfl rfl) ?_
                  exact ⟨_, rfl, (by first | exact ⟨fun _ => by ((try unfold Stands at *); (try unfold Six at *); (try unfold Fiv at *); (try unfold Nums at *); (try unfold Cops at *); omega), fun _ => rfl⟩ | exact ⟨fun h => absurd h (by decide), fun h => by ((try unfold Stands at *); (try unfold Six at *); (try unfold Fiv at *); (try unfold Nums at *); (try unfold Cops at *); omega)⟩), hN0_0.ext⟩
                · skip
                  replace hbg := hbg.1 rfl
                  refine xl_pure rfl rfl rfl (pv_move (v := .bool _) rfl rfl) ?_
                  refine xl_pure rfl rfl rfl (pv_fieldAddr rfl rfl) ?_
                  refine xl_light rfl rfl rfl (lv_load (v := .int _ _) rfl rfl (by first | exact ld_blk hN0_0.blk rfl)) ?_
                  refine xl_pure rfl rfl rfl (pv_fieldAddr rfl rfl) ?_
                  refine xl_light rfl rfl rfl (lv_load (v := .int _ _) rfl rfl (by first | exact ld_blk hN0_0.blk rfl)) ?_
                  refine xl_dec rfl rfl rfl (pv_lss rfl rfl rfl) (fun h12_6 => ?_) (fun h12_6 => ?_)
                  · skip
                    refine xl_pure rfl rfl rfl (pv_pick_t (v := .bool _) rfl rfl rfl) ?_
                    refine xl_pure rfl rfl rfl (pv_move (v := .bool _) rfl rfl) ?_
                    refine xl_pure rfl rfl rfl (pv_fieldAddr rfl rfl) ?_
                    refine xl_light rfl rfl rfl (lv_load (v := .int _ _) rfl rfl (by first | exact ld_blk hN0_0.blk rfl)) ?_
                    refine xl_dec rfl rfl rfl (pv_leq rfl rfl rfl) (fun h12_11 => ?_) (fun h12_11 => ?_)
                    · skip
                      refine xl_pure rfl rfl rfl (pv_pick_t (v := .bool _) rfl rfl rfl) ?_
                      refine xl_pure rfl rfl rfl (pv_move (v := .bool _) rfl rfl) ?_
                      refine xl_pure rfl rfl rfl (pv_fieldAddr rfl rfl) ?_
                      refine xl_light rfl rfl rfl (lv_load (v := .int _ _) rfl rfl (by first | exact ld_blk hN0_0.blk rfl)) ?_
                      refine xl_dec rfl rfl rfl (pv_eql rfl rfl rfl) (fun h12_16 => ?_) (fun h12_16 => ?_)
                      · skip
                        refine xl_pure rfl rfl rfl (pv_pick_t (v := .bool _) rfl rfl rfl) ?_
                        refine xl_pure rfl rfl rfl (pv_assign (v := .bool _) rfl rfl) ?_
                        refine xl_nil ?_
                        refine xthen_normal ?_
                        refine xc_ret ?_
                        refine xblock_ret ?_
                        refine xthen_ret ?_
                        refine fin_ret (res1 (v := .bool _) rfl rfl) ?_
                        exact ⟨_, rfl, (by first | exact ⟨fun _ => by ((try unfold Stands at *); (try unfold Six at *); (try unfold Fiv at *); (try unfold Nums at *); (try unfold Cops at *); omega), fun _ => rfl⟩ | exact ⟨fun h => absurd h (by decide), fun h => by ((try unfold Stands at *); (try unfold Six at *); (try unfold Fiv at *); (try unfold Nums at *); (try unfold Cops at *); omega)⟩), hN0_0.ext⟩
                      · skip
                        refine xl_pure rfl rfl rfl (pv_pick_t (v := .bool _) rfl rfl rfl) ?_
                        refine xl_pure rfl rfl rfl (pv_assign (v := .bool _) rfl rfl) ?_
                        refine xl_nil ?_
                        refine xthen_normal ?_
                        refine xc_ret ?_
                        refine xblock_ret ?_
                        refine xthen_ret ?_
                        refine fin_ret (res1 (v := .bool _) rfl rfl) ?_
                        exact ⟨_, rfl, (by first | exact ⟨fun _ => by ((try unfold Stands at *); (try unfold Six at *); (try unfold Fiv at *); (try unfold Nums at *); (try unfold Cops at *); omega), fun _ => rfl⟩ | exact ⟨fun h => absurd h (by decide), fun h => by ((try unfold Stands at *); (try unfold Six at *); (try unfold Fiv at *); (try unfold Nums at *); (try unfold Cops at *); omega)⟩), hN0_0.ext⟩
                    · skip
                      refine xl_pure rfl rfl rfl (pv_pick_t (v := .bool _) rfl rfl rfl) ?_
                      refine xl_pure rfl rfl rfl (pv_move (v := .bool _) rfl rfl) ?_
                      refine xl_skip rfl rfl rfl ?_
                      refine xl_skip rfl rfl rfl ?_
                      refine xl_skip rfl rfl rfl ?_
                      refine xl_pure rfl rfl rfl (pv_pick_f (v := .bool _) rfl rfl rfl) ?_
                      refine xl_pure rfl rfl rfl (pv_assign (v := .bool _) rfl rfl) ?_
                      refine xl_nil ?_
                      refine xthen_normal ?_
                      refine xc_ret ?_
                      refine xblock_ret ?_
                      refine xthen_ret ?_
                      refine fin_ret (res1 (v := .bool _) rfl rfl) ?_
                      exact ⟨_, rfl, (by first | exact ⟨fun _ => by ((try unfold Stands at *); (try unfold Six at *); (try unfold Fiv at *); (try unfold Nums at *); (try unfold Cops at *); omega), fun _ => rfl⟩ | exact ⟨fun h => absurd h (by decide), fun h => by ((try unfold Stands at *); (try unfold Six at *); (try unfold Fiv at *); (try unfold Nums at *); (try unfold Cops at *); omega)⟩), hN0_0.ext⟩
                  · skip
                    refine xl_pure rfl rfl rfl (pv_pick_t (v := .bool _) rfl rfl rfl) ?_
                    refine xl_pure rfl rfl rfl (pv_move (v := .bool _) rfl rfl) ?_
                    refine xl_skip rfl rfl rfl ?_
                    refine xl_skip rfl rfl rfl ?_
                    refine xl_skip rfl rfl rfl ?_
                    refine xl_pure rfl rfl rfl (pv_pick_f (v := .bool _) rfl rfl rfl) ?_
                    refine xl_pure rfl rfl rfl (pv_move (v := .bool _) rfl rfl) ?_
                    refine xl_skip rfl rfl rfl ?_
                    refine xl_skip rfl rfl rfl ?_
                    refine xl_skip rfl rfl rfl ?_
                    refine xl_pure rfl rfl rfl (pv_pick_f (v := .bool _) rfl rfl rfl) ?_
                    refine xl_pure rfl rfl rfl (pv_assign (v := .bool _) rfl rfl) ?_
                    refine xl_nil ?_
                    refine xthen_normal ?_
                    refine xc_ret ?_
                    refine xblock_ret ?_
                    refine xthen_ret ?_
                    refine fin_ret (res1 (v := .bool _) rfl rfl) ?_
                    exact ⟨_, rfl, (by first | exact ⟨fun _ => by ((try unfold Stands at *); (try unfold Six at *); (try unfold Fiv at *); (try unfold Nums at *); (try unfold Cops at *); omega), fun _ => rfl⟩ | exact ⟨fun h => absurd h (by decide), fun h => by ((try unfold Stands at *); (try unfold Six at *); (try unfold Fiv at *); (try unfold Nums at *); (try unfold Cops at *); omega)⟩), hN0_0.ext⟩
              · skip
                refine xl_pure rfl rfl rfl (pv_assign (v := .bool _) rfl rfl) ?_
                refine xl_nil ?_
                refine xthen_normal ?_
                refine xc_cond_f rfl ?_
                refine xc_region ?_
                refine xl_dec rfl rfl rfl (pv_eql rfl rfl rfl) (fun h11_0 => ?_) (fun h11_0 => ?_)
                · skip
                  refine xl_pure rfl rfl rfl (pv_assign (v := .bool _) rfl rfl) ?_
                  refine xl_nil ?_
                  refine xthen_normal ?_
                  refine xc_cond_t rfl ?_
                  refine xc_seq ?_
                  refine xc_region ?_
                  refine xl_pure rfl rfl rfl (pv_move (v := .bool _) rfl rfl) ?_
                  cases bg
                  · skip
                    replace hbg := mt hbg.2 (by decide)
                    refine xl_pure rfl rfl rfl (pv_move (v := .bool _) rfl rfl) ?_
                    refine xl_skip rfl rfl rfl ?_
                    refine xl_skip rfl rfl rfl ?_
                    refine xl_skip rfl rfl rfl ?_
                    refine xl_skip rfl rfl rfl ?_
                    refine xl_skip rfl rfl rfl ?_
                    refine xl_pure rfl rfl rfl (pv_pick_f (v := .bool _) rfl rfl rfl) ?_
                    refine xl_pure rfl rfl rfl (pv_move (v := .bool _) rfl rfl) ?_
                    refine xl_skip rfl rfl rfl ?_
                    refine xl_skip rfl rfl rfl ?_
                    refine xl_skip rfl rfl rfl ?_
                    refine xl_pure rfl rfl rfl (pv_pick_f (v := .bool _) rfl rfl rfl) ?_
                    refine xl_pure rfl rfl rfl (pv_move (v := .bool _) rfl rfl) ?_
                    refine xl_skip rfl rfl rfl ?_
                    refine xl_skip rfl rfl rfl ?_
                    refine xl_skip rfl rfl rfl ?_
                    refine xl_pure rfl rfl rfl (pv_pick_f (v := .bool _) rfl rfl rfl) ?_
                    refine xl_pure rfl rfl rfl (pv_assign (v := .bool _) rfl rfl) ?_
                    refine xl_nil ?_
                    refine xthen_normal ?_
                    refine xc_ret ?_
                    refine xblock_ret ?_
                    refine xthen_ret ?_
                    refine fin_ret (res1 (v := .bool _) rfl rfl) ?_
                    exact ⟨_, rfl, (by first | exact ⟨fun _ => by ((try unfold Stands at *); (try unfold Six at *); (try unfold Fiv at *); (try unfold Nums at *); (try unfold Cops at *); omega), fun _ => rfl⟩ | exact ⟨fun h => absurd h (by decide), fun h => by ((try unfold Stands at *); (try unfold Six at *); (try unfold Fiv at *); (try unfold Nums at *); (try unfold Cops at *); omega)⟩), hN0_0.ext⟩
                  · skip
                    replace hbg := hbg.1 rfl
                    refine xl_pure rfl rfl rfl (pv_move (v := .bool _) rfl rfl) ?_
                    refine xl_pure rfl rfl rfl (pv_fieldAddr rfl rfl) ?_
                    refine xl_light rfl rfl rfl (lv_load (v := .int _ _) rfl rfl (by first | exact ld_blk hN0_0.blk rfl)) ?_
                    refine xl_pure rfl rfl rfl (pv_fieldAddr rfl rfl) ?_
                    refine xl_light rfl rfl rfl (lv_load (v := .int _ _) rfl rfl (by first | exact ld_blk hN0_0.blk rfl)) ?_
                    refine xl_dec rfl rfl rfl (pv_lss rfl rfl rfl) (fun h12_6 => ?_) (fun h12_6 => ?_)
                    · skip
                      refine xl_pure rfl rfl rfl (pv_pick_t (v := .bool _) rfl rfl rfl) ?_
                      refine xl_pure rfl rfl rfl (pv_move (v := .bool _) rfl rfl) ?_
                      refine xl_pure rfl rfl rfl (pv_fieldAddr rfl rfl) ?_
                      refine xl_light rfl rfl rfl (lv_load (v := .int _ _) rfl rfl (by first | exact ld_blk hN0_0.blk rfl)) ?_
                      refine xl_dec rfl rfl rfl (pv_leq rfl rfl rfl) (fun h12_11 => ?_) (fun h12_11 => ?_)
                      · skip
                        refine xl_pure rfl rfl rfl (pv_pick_t (v := .bool _) rfl rfl rfl) ?_
                        refine xl_pure rfl rfl rfl (pv_move (v := .bool _) rfl rfl) ?_
                        refine xl_pure rfl rfl rfl (pv_fieldAddr rfl rfl) ?_
                        refine xl_light rfl rfl rfl (lv_load (v := .int _ _) rfl rfl (by first | exact ld_blk hN0_0.blk rfl)) ?_
                        refine xl_dec rfl rfl rfl (pv_eql rfl rfl rfl) (fun h12_16 => ?_) (fun h12_16 => ?_)
                        · skip
                          refine xl_pure rfl rfl rfl (pv_pick_t (v := .bool _) rfl rfl rfl) ?_
                          refine xl_pure rfl rfl rfl (pv_assign (v := .bool _) rfl rfl) ?_
                          refine xl_nil ?_
                          refine xthen_normal ?_
                          refine xc_ret ?_
                          refine xblock_ret ?_
                          refine xthen_ret ?_
                          refine fin_ret (res1 (v := .bool _) rfl rfl) ?_
                          exact ⟨_, rfl, (by first | exact ⟨fun _ => by ((try unfold Stands at *); (try unfold Six at *); (try unfold Fiv at *); (try unfold Nums at *); (try unfold Cops at *); omega), fun _ => rfl⟩ | exact ⟨fun h => absurd h (by decide), fun h => by ((try unfold Stands at *); (try unfold Six at *); (try unfold Fiv at *); (try unfold Nums at *); (try unfold Cops at *); omega)⟩), hN0_0.ext⟩
                        · skip
                          refine xl_pure rfl rfl rfl (pv_pick_t (v := .bool _) rfl rfl rfl) ?_
                          refine xl_pure rfl rfl rfl (pv_assign (v := .bool _) rfl rfl) ?_
                          refine xl_nil ?_
                          refine xthen_normal ?_
                          refine xc_ret ?_
                          refine xblock_ret ?_
                          refine xthen_ret ?_
                          refine fin_ret (res1 (v := .bool _) rfl rfl) ?_
                          exact ⟨_, rfl, (by first | exact ⟨fun _ => by ((try unfold Stands at *); (try unfold Six at *); (try unfold Fiv at *); (try unfold Nums at *); (try unfold Cops at *); omega), fun _ => rfl⟩ | exact ⟨fun h => absurd h (by decide), fun h => by ((try unfold Stands at *); (try unfold Six at *); (try unfold Fiv at *); (try unfold Nums at *); (try unfold Cops at *); omega)⟩), hN0_0.ext⟩
                      · skip
                        refine xl_pure rfl rfl rfl (pv_pick_t (v := .bool _) rfl rfl rfl) ?_
                        refine xl_pure rfl rfl rfl (pv_move (v := .bool _) rfl rfl) ?_
                        refine xl_skip rfl rfl rfl ?_
                        refine xl_skip rfl rfl rfl ?_
                        refine xl_skip rfl rfl rfl ?_
                        refine xl_pure rfl rfl rfl (pv_pick_f (v := .bool _) rfl rfl rfl) ?_
                        refine xl_pure rfl rfl rfl (pv_assign (v := .bool _) rfl rfl) ?_
                        refine xl_nil ?_
                        refine xthen_normal ?_
                        refine xc_ret ?_
                        refine xblock_ret ?_
                        refine xthen_ret ?_
                        refine fin_ret (res1 (v := .bool _) rfl rfl) ?_
                        exact ⟨_, rfl, (by first | exact ⟨fun _ => by ((try unfold Stands at *); (try unfold Six at *); (try unfold Fiv at *); (try unfold Nums at *); (try unfold Cops at *); omega), fun _ => rfl⟩ | exact ⟨fun h => absurd h (by decide), fun h => by ((try unfold Stands at *); (try unfold Six at *); (try unfold Fiv at *); (try unfold Nums at *); (try unfold Cops at *); omega)⟩), hN0_0.ext⟩
                    · skip
                      refine xl_pure rfl rfl rfl (pv_pick_t (v := .bool _) rfl rfl rfl) ?_
                      refine xl_pure rfl rfl rfl (pv_move (v := .bool _) rfl rfl) ?_
                      refine xl_skip rfl rfl rfl ?_
                      refine xl_skip rfl rfl rfl ?_
                      refine xl_skip rfl rfl rfl ?_
                      refine xl_pure rfl rfl rfl (pv_pick_f (v := .bool _) rfl rfl rfl) ?_
                      refine xl_pure rfl rfl rfl (pv_move (v := .bool _) rfl rfl) ?_
                      refine xl_skip rfl rfl rfl ?_
                      refine xl_skip rfl rfl rfl ?_
                      refine xl_skip rfl rfl rfl ?_
                      refine xl_pure rfl rfl rfl (pv_pick_f (v := .bool _) rfl rfl rfl) ?_
                      refine xl_pure rfl rfl rfl (pv_assign (v := .bool _) rfl rfl) ?_
                      refine xl_nil ?_
                      refine xthen_normal ?_
                      refine xc_ret ?_
                      refine xblock_ret ?_
                      refine xthen_ret ?_
                      refine fin_ret (res1 (v := .bool _) rfl rfl) ?_
                      exact ⟨_, rfl, (by first | exact ⟨fun _ => by ((try unfold Stands at *); (try unfold Six at *); (try unfold Fiv at *); (try unfold Nums at *); (try unfold Cops at *); omega), fun _ => rfl⟩ | exact ⟨fun h => absurd h (by decide), fun h => by ((try unfold Stands at *); (try unfold Six at *); (try unfold Fiv at *); (try unfold Nums at *); (try unfold Cops at *); omega)⟩), hN0_0.ext⟩
                · skip
                  refine xl_pure rfl rfl rfl (pv_assign (v := .bool _) rfl rfl) ?_
                  refine xl_nil ?_
                  refine xthen_normal ?_
                  refine xc_cond_f rfl ?_
                  refine xc_seq ?_
                  refine xc_region ?_
                  refine xl_dec rfl rfl rfl (pv_eql rfl rfl rfl) (fun h13_0 => ?_) (fun h13_0 => ?_)
                  · skip
                    refine xl_pure rfl rfl rfl (pv_assign (v := .bool _) rfl rfl) ?_
                    refine xl_nil ?_
                    refine xthen_normal ?_
                    refine xc_cond_t rfl ?_
                    refine xc_seq ?_
                    refine xc_region ?_
                    refine xl_pure rfl rfl rfl (pv_move (v := .bool _) rfl rfl) ?_
                    cases nn
                    · skip
                      replace hnn := mt hnn.2 (by decide)
                      refine xl_pure rfl rfl rfl (pv_move (v := .bool _) rfl rfl) ?_
                      refine xl_skip rfl rfl rfl ?_
                      refine xl_skip rfl rfl rfl ?_
                      refine xl_skip rfl rfl rfl ?_
                      refine xl_pure rfl rfl rfl (pv_pick_f (v := .bool _) rfl rfl rfl) ?_
                      refine xl_pure rfl rfl rfl (pv_assign (v := .bool _) rfl rfl) ?_
                      refine xl_nil ?_
                      refine xthen_normal ?_
                      refine xc_ret ?_
                      refine xblock_ret ?_
                      refine xthen_ret ?_
                      refine fin_ret (res1 (v := .bool _) rfl rfl) ?_
                      exact ⟨_, rfl, (by first | exact ⟨fun _ => by ((try unfold Stands at *); (try unfold Six at *); (try unfold Fiv at *); (try unfold Nums at *); (try unfold Cops at *); omega), fun _ => rfl⟩ | exact ⟨fun h => absurd h (by decide), fun h => by ((try unfold Stands at *); (try unfold Six at *); (try unfold Fiv at *); (try unfold Nums at *); (try unfold Cops at *); omega)⟩), hN0_0.ext⟩
                    · skip
                      replace hnn := hnn.1 rfl
                      refine xl_pure rfl rfl rfl (pv_move (v := .bool _) rfl rfl) ?_
                      refine xl_pure rfl rfl rfl (pv_fieldAddr rfl rfl) ?_
                      refine xl_light rfl rfl rfl (lv_load (v := .int _ _) rfl rfl (by first | exact ld_blk hN0_0.blk rfl)) ?_
                      refine xl_dec rfl rfl rfl (pv_eql rfl rfl rfl) (fun h14_4 => ?_) (fun h14_4 => ?_)
                      · skip
                        refine xl_pure rfl rfl rfl (pv_pick_t (v := .bool _) rfl rfl rfl) ?_
                        refine xl_pure rfl rfl rfl (pv_assign (v := .bool _) rfl rfl) ?_
                        refine xl_nil ?_
                        refine xthen_normal ?_
                        refine xc_ret ?_
                        refine xblock_ret ?_
                        refine xthen_ret ?_
                        refine fin_ret (res1 (v := .bool _) rfl rfl) ?_
                        exact ⟨_, rfl, (by first | exact ⟨fun _ => by ((try unfold Stands at *); (try unfold Six at *); (try unfold Fiv at *); (try unfold Nums at *); (try unfold Cops at *); omega), fun _ => rfl⟩ | exact ⟨fun h => absurd h (by decide), fun h => by ((try unfold Stands at *); (try unfold Six at *); (try unfold Fiv at *); (try unfold Nums at *); (try unfold Cops at *); omega)⟩), hN0_0.ext⟩
                      · skip
                        refine xl_pure rfl rfl rfl (pv_pick_t (v := .bool _) rfl rfl rfl) ?_
                        refine xl_pure rfl rfl rfl (pv_assign (v := .bool _) rfl rfl) ?_
                        refine xl_nil ?_
                        refine xthen_normal ?_
                        refine xc_ret ?_
                        refine xblock_ret ?_
                        refine xthen_ret ?_
                        refine fin_ret (res1 (v := .bool _) rfl rfl) ?_
                        exact ⟨_, rfl, (by first | exact ⟨fun _ => by ((try unfold Stands at *); (try unfold Six at *); (try unfold Fiv at *); (try unfold Nums at *); (try unfold Cops at *); omega), fun _ => rfl⟩ | exact ⟨fun h => absurd h (by decide), fun h => by ((try unfold Stands at *); (try unfold Six at *); (try unfold Fiv at *); (try unfold Nums at *); (try unfold Cops at *); omega)⟩), hN0_0.ext⟩
                  · skip
                    refine xl_pure rfl rfl rfl (pv_assign (v := .bool _) rfl rfl) ?_
                    refine xl_nil ?_
                    refine xthen_normal ?_
                    refine xc_cond_f rfl ?_
                    refine xc_skip ?_
                    refine xblock_normal ?_
                    refine xthen_normal ?_
                    refine xc_seq ?_
                    refine xc_region ?_
                    refine xl_pure rfl rfl rfl (pv_assign (v := .bool _) rfl rfl) ?_
                    refine xl_nil ?_
                    refine xthen_normal ?_
                    refine xc_ret ?_
                    refine fin_ret (res1 (v := .bool _) rfl rfl) ?_
                    exact ⟨_, rfl, (by first | exact ⟨fun _ => by ((try unfold Stands at *); (try unfold Six at *); (try unfold Fiv at *); (try unfold Nums at *); (try unfold Cops at *); omega), fun _ => rfl⟩ | exact ⟨fun h => absurd h (by decide), fun h => by ((try unfold Stands at *); (try unfold Six at *); (try unfold Fiv at *); (try unfold Nums at *); (try unfold Cops at *); omega)⟩), hN0_0.ext⟩

theorem c33 {O : Outer} {H : Heap} (j : J) (a : Option Addr) (c : Nat) (ht : j.time ≤ 1099511627776) :
    FnC Try.prog 33 #[.agg (jcs j a c).toArray] O H (fun v H' => ∃ r, v = .bool r ∧ (r = true ↔ Stands j) ∧ Ext H H') := by
  refine fn_enter (A := [.agg (jcs j a c).toArray]) Try.func33 rfl rfl ?_
  refine xc_seq ?_
  refine xc_region ?_
  refine xl_heavy rfl rfl rfl (hv_box rfl rfl) ?_
  rintro v0_0 H0_0 ⟨b0_0, rfl, hN0_0⟩
  refine xl_pure rfl rfl rfl (pv_assign (v := .bool _) rfl rfl) ?_
  refine xl_nil ?_
  refine xthen_normal ?_
  refine xc_seq ?_
  refine xc_seq ?_
  refine xc_region ?_
  refine xl_pure rfl rfl rfl (pv_fieldAddr rfl rfl) ?_
  refine xl_light rfl rfl rfl (lv_load (v := .int _ _) rfl rfl (by first | exact ld_blk hN0_0.blk rfl)) ?_
  refine xl_nil ?_
  refine xthen_normal ?_
  refine xc_block ?_
  refine xc_seq ?_
  refine xc_seq ?_
  refine xc_region ?_
  refine xl_dec rfl rfl rfl (pv_eql rfl rfl rfl) (fun h2_0 => ?_) (fun h2_0 => ?_)
  · skip
    refine xl_pure rfl rfl rfl (pv_assign (v := .bool _) rfl rfl) ?_
    refine xl_nil ?_
    refine xthen_normal ?_
    refine xc_cond_t rfl ?_
    refine xc_skip ?_
    refine xthen_normal ?_
    refine xc_cond_t rfl ?_
    refine xc_seq ?_
    refine xc_region ?_
    refine xl_pure rfl rfl rfl (pv_fieldAddr rfl rfl) ?_
    refine xl_light rfl rfl rfl (lv_load (v := .int _ _) rfl rfl (by first | exact ld_blk hN0_0.blk rfl)) ?_
    refine xl_dec rfl rfl rfl (pv_eql rfl rfl rfl) (fun h4_2 => ?_) (fun h4_2 => ?_)
    · skip
      refine xl_pure rfl rfl rfl (pv_move (v := .bool _) rfl rfl) ?_
      refine xl_pure rfl rfl rfl (pv_fieldAddr rfl rfl) ?_
      refine xl_light rfl rfl rfl (lv_load (v := .int _ _) rfl rfl (by first | exact ld_blk hN0_0.blk rfl)) ?_
      refine xl_dec rfl rfl rfl (pv_eql rfl rfl rfl) (fun h4_6 => ?_) (fun h4_6 => ?_)
      · skip
        refine xl_pure rfl rfl rfl (pv_pick_t (v := .bool _) rfl rfl rfl) ?_
        refine xl_pure rfl rfl rfl (pv_move (v := .bool _) rfl rfl) ?_
        refine xl_pure rfl rfl rfl (pv_fieldAddr rfl rfl) ?_
        refine xl_light rfl rfl rfl (lv_load (v := .int _ _) rfl rfl (by first | exact ld_blk hN0_0.blk rfl)) ?_
        refine xl_pure rfl rfl rfl (pv_fieldAddr rfl rfl) ?_
        refine xl_light rfl rfl rfl (lv_load (v := .int _ _) rfl rfl (by first | exact ld_blk hN0_0.blk rfl)) ?_
        refine xl_heavy rfl rfl rfl (hv_call (g := 31) rfl rfl (c31 _ _ _) rfl) ?_
        rintro v4_13 H4_13 ⟨r4_13, rfl, hb4_13, rfl⟩
        cases r4_13
        · skip
          replace hb4_13 := mt hb4_13.2 (by decide)
          refine xl_pure rfl rfl rfl (pv_pick_t (v := .bool _) rfl rfl rfl) ?_
          refine xl_pure rfl rfl rfl (pv_assign (v := .bool _) rfl rfl) ?_
          refine xl_nil ?_
          refine xthen_normal ?_
          refine xc_ret ?_
          refine xblock_ret ?_
          refine xthen_ret ?_
          refine fin_ret (res1 (v := .bool _) rfl rfl) ?_
          exact ⟨_, rfl, (by first | exact ⟨fun _ => by ((try unfold Stands at *); (try unfold Six at *); (try unfold Fiv at *); (try unfold Nums at *); (try unfold Cops at *); omega), fun _ => rfl⟩ | exact ⟨fun h => absurd h (by decide), fun h => by ((try unfold Stands at *); (try unfold Six at *); (try unfold Fiv at *); (try unfold Nums at *); (try unfold Cops at *); omega)⟩), hN0_0.ext⟩
        · skip
          replace hb4_13 := hb4_13.1 rfl
          refine xl_pure rfl rfl rfl (pv_pick_t (v := .bool _) rfl rfl rfl) ?_
          refine xl_pure rfl rfl rfl (pv_assign (v := .bool _) rfl rfl) ?_
          refine xl_nil ?_
          refine xthen_normal ?_
          refine xc_ret ?_
          refine xblock_ret ?_
          refine xthen_ret ?_
          refine fin_ret (res1 (v := .bool _) rfl rfl) ?_
          exact ⟨_, rfl, (by first | exact ⟨fun _ => by ((try unfold Stands at *); (try unfold Six at *); (try unfold Fiv at *); (try unfold Nums at *); (try unfold Cops at *); omega), fun _ => rfl⟩ | exact ⟨fun h => absurd h (by decide), fun h => by ((try unfold Stands at *); (try unfold Six at *); (try unfold Fiv at *); (try unfold Nums at *); (try unfold Cops at *); omega)⟩), hN0_0.ext⟩
      · skip
        refine xl_pure rfl rfl rfl (pv_pick_t (v := .bool _) rfl rfl rfl) ?_
        refine xl_pure rfl rfl rfl (pv_move (v := .bool _) rfl rfl) ?_
        refine xl_skip rfl rfl rfl ?_
        refine xl_skip rfl rfl rfl ?_
        refine xl_skip rfl rfl rfl ?_
        refine xl_skip rfl rfl rfl ?_
        refine xl_skip rfl rfl rfl ?_
        refine xl_pure rfl rfl rfl (pv_pick_f (v := .bool _) rfl rfl rfl) ?_
        refine xl_pure rfl rfl rfl (pv_assign (v := .bool _) rfl rfl) ?_
        refine xl_nil ?_
        refine xthen_normal ?_
        refine xc_ret ?_
        refine xblock_ret ?_
        refine xthen_ret ?_
        refine fin_ret (res1 (v := .bool _) rfl rfl) ?_
        exact ⟨_, rfl, (by first | exact ⟨fun _ => by ((try unfold Stands at *); (try unfold Six at *); (try unfold Fiv at *); (try unfold Nums at *); (try unfold Cops at *); omega), fun _ => rfl⟩ | exact ⟨fun h => absurd h (by decide), fun h => by ((try unfold Stands at *); (try unfold Six at *); (try unfold Fiv at *); (try unfold Nums at *); (try unfold Cops at *); omega)⟩), hN0_0.ext⟩
    · skip
      refine xl_pure rfl rfl rfl (pv_move (v := .bool _) rfl rfl) ?_
      refine xl_skip rfl rfl rfl ?_
      refine xl_skip rfl rfl rfl ?_
      refine xl_skip rfl rfl rfl ?_
      refine xl_pure rfl rfl rfl (pv_pick_f (v := .bool _) rfl rfl rfl) ?_
      refine xl_pure rfl rfl rfl (pv_move (v := .bool _) rfl rfl) ?_
      refine xl_skip rfl rfl rfl ?_
      refine xl_skip rfl rfl rfl ?_
      refine xl_skip rfl rfl rfl ?_
      refine xl_skip rfl rfl rfl ?_
      refine xl_skip rfl rfl rfl ?_
      refine xl_pure rfl rfl rfl (pv_pick_f (v := .bool _) rfl rfl rfl) ?_
      refine xl_pure rfl rfl rfl (pv_assign (v := .bool _) rfl rfl) ?_
      refine xl_nil ?_
      refine xthen_normal ?_
      refine xc_ret ?_
      refine xblock_ret ?_
      refine xthen_ret ?_
      refine fin_ret (res1 (v := .bool _) rfl rfl) ?_
      exact ⟨_, rfl, (by first | exact ⟨fun _ => by ((try unfold Stands at *); (try unfold Six at *); (try unfold Fiv at *); (try unfold Nums at *); (try unfold Cops at *); omega), fun _ => rfl⟩ | exact ⟨fun h => absurd h (by decide), fun h => by ((try unfold Stands at *); (try unfold Six at *); (try unfold Fiv at *); (try unfold Nums at *); (try unfold Cops at *); omega)⟩), hN0_0.ext⟩
  · skip
    refine xl_pure rfl rfl rfl (pv_assign (v := .bool _) rfl rfl) ?_
    refine xl_nil ?_
    refine xthen_normal ?_
    refine xc_cond_f rfl ?_
    refine xc_region ?_
    refine xl_dec rfl rfl rfl (pv_eql rfl rfl rfl) (fun h3_0 => ?_) (fun h3_0 => ?_)
    · skip
      refine xl_pure rfl rfl rfl (pv_assign (v := .bool _) rfl rfl) ?_
      refine xl_nil ?_
      refine xthen_normal ?_
      refine xc_cond_t rfl ?_
      refine xc_seq ?_
      refine xc_region ?_
      refine xl_pure rfl rfl rfl (pv_fieldAddr rfl rfl) ?_
      refine xl_light rfl rfl rfl (lv_load (v := .int _ _) rfl rfl (by first | exact ld_blk hN0_0.blk rfl)) ?_
      refine xl_dec rfl rfl rfl (pv_eql rfl rfl rfl) (fun h4_2 => ?_) (fun h4_2 => ?_)
      · skip
        refine xl_pure rfl rfl rfl (pv_move (v := .bool _) rfl rfl) ?_
        refine xl_pure rfl rfl rfl (pv_fieldAddr rfl rfl) ?_
        refine xl_light rfl rfl rfl (lv_load (v := .int _ _) rfl rfl (by first | exact ld_blk hN0_0.blk rfl)) ?_
        refine xl_dec rfl rfl rfl (pv_eql rfl rfl rfl) (fun h4_6 => ?_) (fun h4_6 => ?_)
        · skip
          refine xl_pure rfl rfl rfl (pv_pick_t (v := .bool _) rfl rfl rfl) ?_
          refine xl_pure rfl rfl rfl (pv_move (v := .bool _) rfl rfl) ?_
          refine xl_pure rfl rfl rfl (pv_fieldAddr rfl rfl) ?_
          refine xl_light rfl rfl rfl (lv_load (v := .int _ _) rfl rfl (by first | exact ld_blk hN0_0.blk rfl)) ?_
          refine xl_pure rfl rfl rfl (pv_fieldAddr rfl rfl) ?_
          refine xl_light rfl rfl rfl (lv_load (v := .int _ _) rfl rfl (by first | exact ld_blk hN0_0.blk rfl)) ?_
          refine xl_heavy rfl rfl rfl (hv_call (g := 31) rfl rfl (c31 _ _ _) rfl) ?_
          rintro v4_13 H4_13 ⟨r4_13, rfl, hb4_13, rfl⟩
          cases r4_13
          · skip
            replace hb4_13 := mt hb4_13.2 (by decide)
            refine xl_pure rfl rfl rfl (pv_pick_t (v := .bool _) rfl rfl rfl) ?_
            refine xl_pure rfl rfl rfl (pv_assign (v := .bool _) rfl rfl) ?_
            refine xl_nil ?_
            refine xthen_normal ?_
            refine xc_ret ?_
            refine xblock_ret ?_
            refine xthen_ret ?_
            refine fin_ret (res1 (v := .bool _) rfl rfl) ?_
            exact ⟨_, rfl, (by first | exact ⟨fun _ => by ((try unfold Stands at *); (try unfold Six at *); (try unfold Fiv at *); (try unfold Nums at *); (try unfold Cops at *); omega), fun _ => rfl⟩ | exact ⟨fun h => absurd h (by decide), fun h => by ((try unfold Stands at *); (try unfold Six at *); (try unfold Fiv at *); (try unfold Nums at *); (try unfold Cops at *); omega)⟩), hN0_0.ext⟩
          · skip
            replace hb4_13 := hb4_13.1 rfl
            refine xl_pure rfl rfl rfl (pv_pick_t (v := .bool _) rfl rfl rfl) ?_
            refine xl_pure rfl rfl rfl (pv_assign (v := .bool _) rfl rfl) ?_
            refine xl_nil ?_
            refine xthen_normal ?_
            refine xc_ret ?_
            refine xblock_ret ?_
            refine xthen_ret ?_
            refine fin_ret (res1 (v := .bool _) rfl rfl) ?_
            exact ⟨_, rfl, (by first | exact ⟨fun _ => by ((try unfold Stands at *); (try unfold Six at *); (try unfold Fiv at *); (try unfold Nums at *); (try unfold Cops at *); omega), fun _ => rfl⟩ | exact ⟨fun h => absurd h (by decide), fun h => by ((try unfold Stands at *); (try unfold Six at *); (try unfold Fiv at *); (try unfold Nums at *); (try unfold Cops at *); omega)⟩), hN0_0.ext⟩
        · skip
          refine xl_pure rfl rfl rfl (pv_pick_t (v := .bool _) rfl rfl rfl) ?_
          refine xl_pure rfl rfl rfl (pv_move (v := .bool _) rfl rfl) ?_
          refine xl_skip rfl rfl rfl ?_
          refine xl_skip rfl rfl rfl ?_
          refine xl_skip rfl rfl rfl ?_
          refine xl_skip rfl rfl rfl ?_
          refine xl_skip rfl rfl rfl ?_
          refine xl_pure rfl rfl rfl (pv_pick_f (v := .bool _) rfl rfl rfl) ?_
          refine xl_pure rfl rfl rfl (pv_assign (v := .bool _) rfl rfl) ?_
          refine xl_nil ?_
          refine xthen_normal ?_
          refine xc_ret ?_
          refine xblock_ret ?_
          refine xthen_ret ?_
          refine fin_ret (res1 (v := .bool _) rfl rfl) ?_
          exact ⟨_, rfl, (by first | exact ⟨fun _ => by ((try unfold Stands at *); (try unfold Six at *); (try unfold Fiv at *); (try unfold Nums at *); (try unfold Cops at *); omega), fun _ => rfl⟩ | exact ⟨fun h => absurd h (by decide), fun h => by ((try unfold Stands at *); (try unfold Six at *); (try unfold Fiv at *); (try unfold Nums at *); (try unfold Cops at *); omega)⟩), hN0_0.ext⟩
      · skip
        refine xl_pure rfl rfl rfl (pv_move (v := .bool _) rfl rfl) ?_
        refine xl_skip rfl rfl rfl ?_
        refine xl_skip rfl rfl rfl ?_
        refine xl_skip rfl rfl rfl ?_
        refine xl_pure rfl rfl rfl (pv_pick_f (v := .bool _) rfl rfl rfl) ?_
        refine xl_pure rfl rfl rfl (pv_move (v := .bool _) rfl rfl) ?_
        refine xl_skip rfl rfl rfl ?_
        refine xl_skip rfl rfl rfl ?_
        refine xl_skip rfl rfl rfl ?_
        refine xl_skip rfl rfl rfl ?_
        refine xl_skip rfl rfl rfl ?_
        refine xl_pure rfl rfl rfl (pv_pick_f (v := .bool _) rfl rfl rfl) ?_
        refine xl_pure rfl rfl rfl (pv_assign (v := .bool _) rfl rfl) ?_
        refine xl_nil ?_
        refine xthen_normal ?_
        refine xc_ret ?_
        refine xblock_ret ?_
        refine xthen_ret ?_
        refine fin_ret (res1 (v := .bool _) rfl rfl) ?_
        exact ⟨_, rfl, (by first | exact ⟨fun _ => by ((try unfold Stands at *); (try unfold Six at *); (try unfold Fiv at *); (try unfold Nums at *); (try unfold Cops at *); omega), fun _ => rfl⟩ | exact ⟨fun h => absurd h (by decide), fun h => by ((try unfold Stands at *); (try unfold Six at *); (try unfold Fiv at *); (try unfold Nums at *); (try unfold Cops at *); omega)⟩), hN0_0.ext⟩
    · skip
      refine xl_pure rfl rfl rfl (pv_assign (v := .bool _) rfl rfl) ?_
      refine xl_nil ?_
      refine xthen_normal ?_
      refine xc_cond_f rfl ?_
      refine xc_seq ?_
      refine xc_region ?_
      refine xl_dec rfl rfl rfl (pv_eql rfl rfl rfl) (fun h5_0 => ?_) (fun h5_0 => ?_)
      · skip
        refine xl_pure rfl rfl rfl (pv_assign (v := .bool _) rfl rfl) ?_
        refine xl_nil ?_
        refine xthen_normal ?_
        refine xc_cond_t rfl ?_
        refine xc_seq ?_
        refine xc_region ?_
        refine xl_pure rfl rfl rfl (pv_fieldAddr rfl rfl) ?_
        refine xl_light rfl rfl rfl (lv_load (v := .int _ _) rfl rfl (by first | exact ld_blk hN0_0.blk rfl)) ?_
        refine xl_heavy rfl rfl rfl (hv_call (g := 31) rfl rfl (c31 _ _ _) rfl) ?_
        rintro v6_2 H6_2 ⟨r6_2, rfl, hb6_2, rfl⟩
        cases r6_2
        · skip
          replace hb6_2 := mt hb6_2.2 (by decide)
          refine xl_pure rfl rfl rfl (pv_move (v := .bool _) rfl rfl) ?_
          refine xl_skip rfl rfl rfl ?_
          refine xl_skip rfl rfl rfl ?_
          refine xl_skip rfl rfl rfl ?_
          refine xl_skip rfl rfl rfl ?_
          refine xl_skip rfl rfl rfl ?_
          refine xl_pure rfl rfl rfl (pv_pick_f (v := .bool _) rfl rfl rfl) ?_
          refine xl_pure rfl rfl rfl (pv_move (v := .bool _) rfl rfl) ?_
          refine xl_skip rfl rfl rfl ?_
          refine xl_skip rfl rfl rfl ?_
          refine xl_skip rfl rfl rfl ?_
          refine xl_skip rfl rfl rfl ?_
          refine xl_skip rfl rfl rfl ?_
          refine xl_skip rfl rfl rfl ?_
          refine xl_skip rfl rfl rfl ?_
          refine xl_skip rfl rfl rfl ?_
          refine xl_pure rfl rfl rfl (pv_pick_f (v := .bool _) rfl rfl rfl) ?_
          refine xl_pure rfl rfl rfl (pv_assign (v := .bool _) rfl rfl) ?_
          refine xl_nil ?_
          refine xthen_normal ?_
          refine xc_ret ?_
          refine xblock_ret ?_
          refine xthen_ret ?_
          refine fin_ret (res1 (v := .bool _) rfl rfl) ?_
          exact ⟨_, rfl, (by first | exact ⟨fun _ => by ((try unfold Stands at *); (try unfold Six at *); (try unfold Fiv at *); (try unfold Nums at *); (try unfold Cops at *); omega), fun _ => rfl⟩ | exact ⟨fun h => absurd h (by decide), fun h => by ((try unfold Stands at *); (try unfold Six at *); (try unfold Fiv at *); (try unfold Nums at *); (try unfold Cops at *); omega)⟩), hN0_0.ext⟩
        · skip
          replace hb6_2 := hb6_2.1 rfl
          refine xl_pure rfl rfl rfl (pv_move (v := .bool _) rfl rfl) ?_
          refine xl_pure rfl rfl rfl (pv_fieldAddr rfl rfl) ?_
          refine xl_light rfl rfl rfl (lv_load (v := .int _ _) rfl rfl (by first | exact ld_blk hN0_0.blk rfl)) ?_
          refine xl_pure rfl rfl rfl (pv_fieldAddr rfl rfl) ?_
          refine xl_light rfl rfl rfl (lv_load (v := .int _ _) rfl rfl (by first | exact ld_blk hN0_0.blk rfl)) ?_
          refine xl_heavy rfl rfl rfl (hv_call (g := 31) rfl rfl (c31 _ _ _) rfl) ?_
          rintro v6_8 H6_8 ⟨r6_8, rfl, hb6_8, rfl⟩
          cases r6_8
          · skip
            replace hb6_8 := mt hb6_8.2 (by decide)
            refine xl_pure rfl rfl rfl (pv_pick_t (v := .bool _) rfl rfl rfl) ?_
            refine xl_pure rfl rfl rfl (pv_move (v := .bool _) rfl rfl) ?_
            refine xl_skip rfl rfl rfl ?_
            refine xl_skip rfl rfl rfl ?_
            refine xl_skip rfl rfl rfl ?_
            refine xl_skip rfl rfl rfl ?_
            refine xl_skip rfl rfl rfl ?_
            refine xl_skip rfl rfl rfl ?_
            refine xl_skip rfl rfl rfl ?_
            refine xl_skip rfl rfl rfl ?_
            refine xl_pure rfl rfl rfl (pv_pick_f (v := .bool _) rfl rfl rfl) ?_
            refine xl_pure rfl rfl rfl (pv_assign (v := .bool _) rfl rfl) ?_
            refine xl_nil ?_
            refine xthen_normal ?_
            refine xc_ret ?_
            refine xblock_ret ?_
            refine xthen_ret ?_
            refine fin_ret (res1 (v := .bool _) rfl rfl) ?_
            exact ⟨_, rfl, (by first | exact ⟨fun _ => by ((try unfold Stands at *); (try unfold Six at *); (try unfold Fiv at *); (try unfold Nums at *); (try unfold Cops at *); omega), fun _ => rfl⟩ | exact ⟨fun h => absurd h (by decide), fun h => by ((try unfold Stands at *); (try unfold Six at *); (try unfold Fiv at *); (try unfold Nums at *); (try unfold Cops at *); omega)⟩), hN0_0.ext⟩
          · skip
            replace hb6_8 := hb6_8.1 rfl
            refine xl_pure rfl rfl rfl (pv_pick_t (v := .bool _) rfl rfl rfl) ?_
            refine xl_pure rfl rfl rfl (pv_move (v := .bool _) rfl rfl) ?_
            refine xl_pure rfl rfl rfl (pv_fieldAddr rfl rfl) ?_
            refine xl_light rfl rfl rfl (lv_load (v := .int _ _) rfl rfl (by first | exact ld_blk hN0_0.blk rfl)) ?_
            refine xl_pure rfl rfl rfl (pv_fieldAddr rfl rfl) ?_
            refine xl_light rfl rfl rfl (lv_load (v := .int _ _) rfl rfl (by first | exact ld_blk hN0_0.blk rfl)) ?_
            refine xl_pure rfl rfl rfl (pv_fieldAddr rfl rfl) ?_
            refine xl_light rfl rfl rfl (lv_load (v := .int _ _) rfl rfl (by first | exact ld_blk hN0_0.blk rfl)) ?_
            refine xl_pure rfl rfl rfl (pv_add rfl rfl rfl (fit_i64 (by omega))) ?_
            refine xl_dec rfl rfl rfl (pv_eql rfl rfl rfl) (fun h6_18 => ?_) (fun h6_18 => ?_)
            · skip
              refine xl_pure rfl rfl rfl (pv_pick_t (v := .bool _) rfl rfl rfl) ?_
              refine xl_pure rfl rfl rfl (pv_assign (v := .bool _) rfl rfl) ?_
              refine xl_nil ?_
              refine xthen_normal ?_
              refine xc_ret ?_
              refine xblock_ret ?_
              refine xthen_ret ?_
              refine fin_ret (res1 (v := .bool _) rfl rfl) ?_
              exact ⟨_, rfl, (by first | exact ⟨fun _ => by ((try unfold Stands at *); (try unfold Six at *); (try unfold Fiv at *); (try unfold Nums at *); (try unfold Cops at *); omega), fun _ => rfl⟩ | exact ⟨fun h => absurd h (by decide), fun h => by ((try unfold Stands at *); (try unfold Six at *); (try unfold Fiv at *); (try unfold Nums at *); (try unfold Cops at *); omega)⟩), hN0_0.ext⟩
            · skip
              refine xl_pure rfl rfl rfl (pv_pick_t (v := .bool _) rfl rfl rfl) ?_
              refine xl_pure rfl rfl rfl (pv_assign (v := .bool _) rfl rfl) ?_
              refine xl_nil ?_
              refine xthen_normal ?_
              refine xc_ret ?_
              refine xblock_ret ?_
              refine xthen_ret ?_
              refine fin_ret (res1 (v := .bool _) rfl rfl) ?_
              exact ⟨_, rfl, (by first | exact ⟨fun _ => by ((try unfold Stands at *); (try unfold Six at *); (try unfold Fiv at *); (try unfold Nums at *); (try unfold Cops at *); omega), fun _ => rfl⟩ | exact ⟨fun h => absurd h (by decide), fun h => by ((try unfold Stands at *); (try unfold Six at *); (try unfold Fiv at *); (try unfold Nums at *); (try unfold Cops at *); omega)⟩), hN0_0.ext⟩
      · skip
        refine xl_pure rfl rfl rfl (pv_assign (v := .bool _) rfl rfl) ?_
        refine xl_nil ?_
        refine xthen_normal ?_
        refine xc_cond_f rfl ?_
        refine xc_seq ?_
        refine xc_seq ?_
        refine xc_region ?_
        refine xl_dec rfl rfl rfl (pv_eql rfl rfl rfl) (fun h7_0 => ?_) (fun h7_0 => ?_)
        · skip
          refine xl_pure rfl rfl rfl (pv_assign (v := .bool _) rfl rfl) ?_
          refine xl_nil ?_
          refine xthen_normal ?_
          refine xc_cond_t rfl ?_
          refine xc_skip ?_
          refine xthen_normal ?_
          refine xc_cond_t rfl ?_
          refine xc_seq ?_
          refine xc_region ?_
          refine xl_pure rfl rfl rfl (pv_fieldAddr rfl rfl) ?_
          refine xl_light rfl rfl rfl (lv_load (v := .int _ _) rfl rfl (by first | exact ld_blk hN0_0.blk rfl)) ?_
          refine xl_heavy rfl rfl rfl (hv_call (g := 31) rfl rfl (c31 _ _ _) rfl) ?_
          rintro v9_2 H9_2 ⟨r9_2, rfl, hb9_2, rfl⟩
          cases r9_2
          · skip
            replace hb9_2 := mt hb9_2.2 (by decide)
            refine xl_pure rfl rfl rfl (pv_move (v := .bool _) rfl rfl) ?_
            refine xl_skip rfl rfl rfl ?_
            refine xl_skip rfl rfl rfl ?_
            refine xl_skip rfl rfl rfl ?_
            refine xl_pure rfl rfl rfl (pv_pick_f (v := .bool _) rfl rfl rfl) ?_
            refine xl_pure rfl rfl rfl (pv_move (v := .bool _) rfl rfl) ?_
            refine xl_skip rfl rfl rfl ?_
            refine xl_skip rfl rfl rfl ?_
            refine xl_skip rfl rfl rfl ?_
            refine xl_skip rfl rfl rfl ?_
            refine xl_skip rfl rfl rfl ?_
            refine xl_pure rfl rfl rfl (pv_pick_f (v := .bool _) rfl rfl rfl) ?_
            refine xl_pure rfl rfl rfl (pv_move (v := .bool _) rfl rfl) ?_
            refine xl_skip rfl rfl rfl ?_
            refine xl_skip rfl rfl rfl ?_
            refine xl_skip rfl rfl rfl ?_
            refine xl_pure rfl rfl rfl (pv_pick_f (v := .bool _) rfl rfl rfl) ?_
            refine xl_pure rfl rfl rfl (pv_assign (v := .bool _) rfl rfl) ?_
            refine xl_nil ?_
            refine xthen_normal ?_
            refine xc_ret ?_
            refine xblock_ret ?_
            refine xthen_ret ?_
            refine fin_ret (res1 (v := .bool _) rfl rfl) ?_
            exact ⟨_, rfl, (by first | exact ⟨fun _ => by ((try unfold Stands at *); (try unfold Six at *); (try unfold Fiv at *); (try unfold Nums at *); (try unfold Cops at *); omega), fun _ => rfl⟩ | exact ⟨fun h => absurd h (by decide), fun h => by ((try unfold Stands at *); (try unfold Six at *); (try unfold Fiv at *); (try unfold Nums at *); (try unfold Cops at *); omega)⟩), hN0_0.ext⟩
          · skip
            replace hb9_2 := hb9_2.1 rfl
            refine xl_pure rfl rfl rfl (pv_move (v := .bool _) rfl rfl) ?_
            refine xl_pure rfl rfl rfl (pv_fieldAddr rfl rfl) ?_
            refine xl_light rfl rfl rfl (lv_load (v := .int _ _) rfl rfl (by first | exact ld_blk hN0_0.blk rfl)) ?_
            refine xl_heavy rfl rfl rfl (hv_call (g := 31) rfl rfl (c31 _ _ _) rfl) ?_
            rintro v9_6 H9_6 ⟨r9_6, rfl, hb9_6, rfl⟩
            cases r9_6
            · skip
              replace hb9_6 := mt hb9_6.2 (by decide)
              refine xl_pure rfl rfl rfl (pv_pick_t (v := .bool _) rfl rfl rfl) ?_
              refine xl_pure rfl rfl rfl (pv_move (v := .bool _) rfl rfl) ?_
              refine xl_skip rfl rfl rfl ?_
              refine xl_skip rfl rfl rfl ?_
              refine xl_skip rfl rfl rfl ?_
              refine xl_skip rfl rfl rfl ?_
              refine xl_skip rfl rfl rfl ?_
              refine xl_pure rfl rfl rfl (pv_pick_f (v := .bool _) rfl rfl rfl) ?_
              refine xl_pure rfl rfl rfl (pv_move (v := .bool _) rfl rfl) ?_
              refine xl_skip rfl rfl rfl ?_
              refine xl_skip rfl rfl rfl ?_
              refine xl_skip rfl rfl rfl ?_
              refine xl_pure rfl rfl rfl (pv_pick_f (v := .bool _) rfl rfl rfl) ?_
              refine xl_pure rfl rfl rfl (pv_assign (v := .bool _) rfl rfl) ?_
              refine xl_nil ?_
              refine xthen_normal ?_
              refine xc_ret ?_
              refine xblock_ret ?_
              refine xthen_ret ?_
              refine fin_ret (res1 (v := .bool _) rfl rfl) ?_
              exact ⟨_, rfl, (by first | exact ⟨fun _ => by ((try unfold Stands at *); (try unfold Six at *); (try unfold Fiv at *); (try unfold Nums at *); (try unfold Cops at *); omega), fun _ => rfl⟩ | exact ⟨fun h => absurd h (by decide), fun h => by ((try unfold Stands at *); (try unfold Six at *); (try unfold Fiv at *); (try unfold Nums at *); (try unfold Cops at *); omega)⟩), hN0_0.ext⟩
            · skip
              replace hb9_6 := hb9_6.1 rfl
              refine xl_pure rfl rfl rfl (pv_pick_t (v := .bool _) rfl rfl rfl) ?_
              refine xl_pure rfl rfl rfl (pv_move (v := .bool _) rfl rfl) ?_
              refine xl_pure rfl rfl rfl (pv_fieldAddr rfl rfl) ?_
              refine xl_light rfl rfl rfl (lv_load (v := .int _ _) rfl rfl (by first | exact ld_blk hN0_0.blk rfl)) ?_
              refine xl_pure rfl rfl rfl (pv_fieldAddr rfl rfl) ?_
              refine xl_light rfl rfl rfl (lv_load (v := .int _ _) rfl rfl (by first | exact ld_blk hN0_0.blk rfl)) ?_
              refine xl_dec rfl rfl rfl (pv_gtr rfl rfl rfl) (fun h9_13 => ?_) (fun h9_13 => ?_)
              · skip
                refine xl_pure rfl rfl rfl (pv_pick_t (v := .bool _) rfl rfl rfl) ?_
                refine xl_pure rfl rfl rfl (pv_move (v := .bool _) rfl rfl) ?_
                refine xl_pure rfl rfl rfl (pv_fieldAddr rfl rfl) ?_
                refine xl_light rfl rfl rfl (lv_load (v := .int _ _) rfl rfl (by first | exact ld_blk hN0_0.blk rfl)) ?_
                refine xl_dec rfl rfl rfl (pv_eql rfl rfl rfl) (fun h9_18 => ?_) (fun h9_18 => ?_)
                · skip
                  refine xl_pure rfl rfl rfl (pv_pick_t (v := .bool _) rfl rfl rfl) ?_
                  refine xl_pure rfl rfl rfl (pv_assign (v := .bool _) rfl rfl) ?_
                  refine xl_nil ?_
                  refine xthen_normal ?_
                  refine xc_ret ?_
                  refine xblock_ret ?_
                  refine xthen_ret ?_
                  refine fin_ret (res1 (v := .bool _) rfl rfl) ?_
                  exact ⟨_, rfl, (by first | exact ⟨fun _ => by ((try unfold Stands at *); (try unfold Six at *); (try unfold Fiv at *); (try unfold Nums at *); (try unfold Cops at *); omega), fun _ => rfl⟩ | exact ⟨fun h => absurd h (by decide), fun h => by ((try unfold Stands at *); (try unfold Six at *); (try unfold Fiv at *); (try unfold Nums at *); (try unfold Cops at *); omega)⟩), hN0_0.ext⟩
                · skip
                  refine xl_pure rfl rfl rfl (pv_pick_t (v := .bool _) rfl rfl rfl) ?_
                  refine xl_pure rfl rfl rfl (pv_assign (v := .bool _) rfl rfl) ?_
                  refine xl_nil ?_
                  refine xthen_normal ?_
                  refine xc_ret ?_
                  refine xblock_ret ?_
                  refine xthen_ret ?_
                  refine fin_ret (res1 (v := .bool _) rfl rfl) ?_
                  exact ⟨_, rfl, (by first | exact ⟨fun _ => by ((try unfold Stands at *); (try unfold Six at *); (try unfold Fiv at *); (try unfold Nums at *); (try unfold Cops at *); omega), fun _ => rfl⟩ | exact ⟨fun h => absurd h (by decide), fun h => by ((try unfold Stands at *); (try unfold Six at *); (try unfold Fiv at *); (try unfold Nums at *); (try unfold Cops at *); omega)⟩), hN0_0.ext⟩
              · skip
                refine xl_pure rfl rfl rfl (pv_pick_t (v := .bool _) rfl rfl rfl) ?_
                refine xl_pure rfl rfl rfl (pv_move (v := .bool _) rfl rfl) ?_
                refine xl_skip rfl rfl rfl ?_
                refine xl_skip rfl rfl rfl ?_
                refine xl_skip rfl rfl rfl ?_
                refine xl_pure rfl rfl rfl (pv_pick_f (v := .bool _) rfl rfl rfl) ?_
                refine xl_pure rfl rfl rfl (pv_assign (v := .bool _) rfl rfl) ?_
                refine xl_nil ?_
                refine xthen_normal ?_
                refine xc_ret ?_
                refine xblock_ret ?_
                refine xthen_ret ?_
                refine fin_ret (res1 (v := .bool _) rfl rfl) ?_
                exact ⟨_, rfl, (by first | exact ⟨fun _ => by ((try unfold Stands at *); (try unfold Six at *); (try unfold Fiv at *); (try unfold Nums at *); (try unfold Cops at *); omega), fun _ => rfl⟩ | exact ⟨fun h => absurd h (by decide), fun h => by ((try unfold Stands at *); (try unfold Six at *); (try unfold Fiv at *); (try unfold Nums at *); (try unfold Cops at *); omega)⟩), hN0_0.ext⟩
        · skip
          refine xl_pure rfl rfl rfl (pv_assign (v := .bool _) rfl rfl) ?_
          refine xl_nil ?_
          refine xthen_normal ?_
          refine xc_cond_f rfl ?_
          refine xc_region ?_
          refine xl_dec rfl rfl rfl (pv_eql rfl rfl rfl) (fun h8_0 => ?_) (fun h8_0 => ?_)
          · skip
            refine xl_pure rfl rfl rfl (pv_assign (v := .bool _) rfl rfl) ?_
            refine xl_nil ?_
            refine xthen_normal ?_
            refine xc_cond_t rfl ?_
            refine xc_seq ?_
            refine xc_region ?_
            refine xl_pure rfl rfl rfl (pv_fieldAddr rfl rfl) ?_
            refine xl_light rfl rfl rfl (lv_load (v := .int _ _) rfl rfl (by first | exact ld_blk hN0_0.blk rfl)) ?_
            refine xl_heavy rfl rfl rfl (hv_call (g := 31) rfl rfl (c31 _ _ _) rfl) ?_
            rintro v9_2 H9_2 ⟨r9_2, rfl, hb9_2, rfl⟩
            cases r9_2
            · skip
              replace hb9_2 := mt hb9_2.2 (by decide)
              refine xl_pure rfl rfl rfl (pv_move (v := .bool _) rfl rfl) ?_
              refine xl_skip rfl rfl rfl ?_
              refine xl_skip rfl rfl rfl ?_
              refine xl_skip rfl rfl rfl ?_
              refine xl_pure rfl rfl rfl (pv_pick_f (v := .bool _) rfl rfl rfl) ?_
              refine xl_pure rfl rfl rfl (pv_move (v := .bool _) rfl rfl) ?_
              refine xl_skip rfl rfl rfl ?_
              refine xl_skip rfl rfl rfl ?_
              refine xl_skip rfl rfl rfl ?_
              refine xl_skip rfl rfl rfl ?_
              refine xl_skip rfl rfl rfl ?_
              refine xl_pure rfl rfl rfl (pv_pick_f (v := .bool _) rfl rfl rfl) ?_
              refine xl_pure rfl rfl rfl (pv_move (v := .bool _) rfl rfl) ?_
              refine xl_skip rfl rfl rfl ?_
              refine xl_skip rfl rfl rfl ?_
              refine xl_skip rfl rfl rfl ?_
              refine xl_pure rfl rfl rfl (pv_pick_f (v := .bool _) rfl rfl rfl) ?_
              refine xl_pure rfl rfl rfl (pv_assign (v := .bool _) rfl rfl) ?_
              refine xl_nil ?_
              refine xthen_normal ?_
              refine xc_ret ?_
              refine xblock_ret ?_
              refine xthen_ret ?_
              refine fin_ret (res1 (v := .bool _) rfl rfl) ?_
              exact ⟨_, rfl, (by first | exact ⟨fun _ => by ((try unfold Stands at *); (try unfold Six at *); (try unfold Fiv at *); (try unfold Nums at *); (try unfold Cops at *); omega), fun _ => rfl⟩ | exact ⟨fun h => absurd h (by decide), fun h => by ((try unfold Stands at *); (try unfold Six at *); (try unfold Fiv at *); (try unfold Nums at *); (try unfold Cops at *); omega)⟩), hN0_0.ext⟩
            · skip
              replace hb9_2 := hb9_2.1 rfl
              refine xl_pure rfl rfl rfl (pv_move (v := .bool _) rfl rfl) ?_
              refine xl_pure rfl rfl rfl (pv_fieldAddr rfl rfl) ?_
              refine xl_light rfl rfl rfl (lv_load (v := .int _ _) rfl rfl (by first | exact ld_blk hN0_0.blk rfl)) ?_
              refine xl_heavy rfl rfl rfl (hv_call (g := 31) rfl rfl (c31 _ _ _) rfl) ?_
              rintro v9_6 H9_6 ⟨r9_6, rfl, hb9_6, rfl⟩
              cases r9_6
              · skip
                replace hb9_6 := mt hb9_6.2 (by decide)
                refine xl_pure rfl rfl rfl (pv_pick_t (v := .bool _) rfl rfl rfl) ?_
                refine xl_pure rfl rfl rfl (pv_move (v := .bool _) rfl rfl) ?_
                refine xl_skip rfl rfl rfl ?_
                refine xl_skip rfl rfl rfl ?_
                refine xl_skip rfl rfl rfl ?_
                refine xl_skip rfl rfl rfl ?_
                refine xl_skip rfl rfl rfl ?_
                refine xl_pure rfl rfl rfl (pv_pick_f (v := .bool _) rfl rfl rfl) ?_
                refine xl_pure rfl rfl rfl (pv_move (v := .bool _) rfl rfl) ?_
                refine xl_skip rfl rfl rfl ?_
                refine xl_skip rfl rfl rfl ?_
                refine xl_skip rfl rfl rfl ?_
                refine xl_pure rfl rfl rfl (pv_pick_f (v := .bool _) rfl rfl rfl) ?_
                refine xl_pure rfl rfl rfl (pv_assign (v := .bool _) rfl rfl) ?_
                refine xl_nil ?_
                refine xthen_normal ?_
                refine xc_ret ?_
                refine xblock_ret ?_
                refine xthen_ret ?_
                refine fin_ret (res1 (v := .bool _) rfl rfl) ?_
                exact ⟨_, rfl, (by first | exact ⟨fun _ => by ((try unfold Stands at *); (try unfold Six at *); (try unfold Fiv at *); (try unfold Nums at *); (try unfold Cops at *); omega), fun _ => rfl⟩ | exact ⟨fun h => absurd h (by decide), fun h => by ((try unfold Stands at *); (try unfold Six at *); (try unfold Fiv at *); (try unfold Nums at *); (try unfold Cops at *); omega)⟩), hN0_0.ext⟩
              · skip
                replace hb9_6 := hb9_6.1 rfl
                refine xl_pure rfl rfl rfl (pv_pick_t (v := .bool _) rfl rfl rfl) ?_
                refine xl_pure rfl rfl rfl (pv_move (v := .bool _) rfl rfl) ?_
                refine xl_pure rfl rfl rfl (pv_fieldAddr rfl rfl) ?_
                refine xl_light rfl rfl rfl (lv_load (v := .int _ _) rfl rfl (by first | exact ld_blk hN0_0.blk rfl)) ?_
                refine xl_pure rfl rfl rfl (pv_fieldAddr rfl rfl) ?_
                refine xl_light rfl rfl rfl (lv_load (v := .int _ _) rfl rfl (by first | exact ld_blk hN0_0.blk rfl)) ?_
                refine xl_dec rfl rfl rfl (pv_gtr rfl rfl rfl) (fun h9_13 => ?_) (fun h9_13 => ?_)
                · skip
                  refine xl_pure rfl rfl rfl (pv_pick_t (v := .bool _) rfl rfl rfl) ?_
                  refine xl_pure rfl rfl rfl (pv_move (v := .bool _) rfl rfl) ?_
                  refine xl_pure rfl rfl rfl (pv_fieldAddr rfl rfl) ?_
                  refine xl_light rfl rfl rfl (lv_load (v := .int _ _) rfl rfl (by first | exact ld_blk hN0_0.blk rfl)) ?_
                  refine xl_dec rfl rfl rfl (pv_eql rfl rfl rfl) (fun h9_18 => ?_) (fun h9_18 => ?_)
                  · skip
                    refine xl_pure rfl rfl rfl (pv_pick_t (v := .bool _) rfl rfl rfl) ?_
                    refine xl_pure rfl rfl rfl (pv_assign (v := .bool _) rfl rfl) ?_
                    refine xl_nil ?_
                    refine xthen_normal ?_
                    refine xc_ret ?_
                    refine xblock_ret ?_
                    refine xthen_ret ?_
                    refine fin_ret (res1 (v := .bool _) rfl rfl) ?_
                    exact ⟨_, rfl, (by first | exact ⟨fun _ => by ((try unfold Stands at *); (try unfold Six at *); (try unfold Fiv at *); (try unfold Nums at *); (try unfold Cops at *); omega), fun _ => rfl⟩ | exact ⟨fun h => absurd h (by decide), fun h => by ((try unfold Stands at *); (try unfold Six at *); (try unfold Fiv at *); (try unfold Nums at *); (try unfold Cops at *); omega)⟩), hN0_0.ext⟩
                  · skip
                    refine xl_pure rfl rfl rfl (pv_pick_t (v := .bool _) rfl rfl rfl) ?_
                    refine xl_pure rfl rfl rfl (pv_assign (v := .bool _) rfl rfl) ?_
                    refine xl_nil ?_
                    refine xthen_normal ?_
                    refine xc_ret ?_
                    refine xblock_ret ?_
                    refine xthen_ret ?_
                    refine fin_ret (res1 (v := .bool _) rfl rfl) ?_
                    exact ⟨_, rfl, (by first | exact ⟨fun _ => by ((try unfold Stands at *); (try unfold Six at *); (try unfold Fiv at *); (try unfold Nums at *); (try unfold Cops at *); omega), fun _ => rfl⟩ | exact ⟨fun h => absurd h (by decide), fun h => by ((try unfold Stands at *); (try unfold Six at *); (try unfold Fiv at *); (try unfold Nums at *); (try unfold Cops at *); omega)⟩), hN0_0.ext⟩
                · skip
                  refine xl_pure rfl rfl rfl (pv_pick_t (v := .bool _) rfl rfl rfl) ?_
                  refine xl_pure rfl rfl rfl (pv_move (v := .bool _) rfl rfl) ?_
                  refine xl_skip rfl rfl rfl ?_
                  refine xl_skip rfl rfl rfl ?_
                  refine xl_skip rfl rfl rfl ?_
                  refine xl_pure rfl rfl rfl (pv_pick_f (v := .bool _) rfl rfl rfl) ?_
                  refine xl_pure rfl rfl rfl (pv_assign (v := .bool _) rfl rfl) ?_
                  refine xl_nil ?_
                  refine xthen_normal ?_
                  refine xc_ret ?_
                  refine xblock_ret ?_
                  refine xthen_ret ?_
                  refine fin_ret (res1 (v := .bool _) rfl rfl) ?_
                  exact ⟨_, rfl, (by first | exact ⟨fun _ => by ((try unfold Stands at *); (try unfold Six at *); (try unfold Fiv at *); (try unfold Nums at *); (try unfold Cops at *); omega), fun _ => rfl⟩ | exact ⟨fun h => absurd h (by decide), fun h => by ((try unfold Stands at *); (try unfold Six at *); (try unfold Fiv at *); (try unfold Nums at *); (try unfold Cops at *); omega)⟩), hN0_0.ext⟩
          · skip
            refine xl_pure rfl rfl rfl (pv_assign (v := .bool _) rfl rfl) ?_
            refine xl_nil ?_
            refine xthen_normal ?_
            refine xc_cond_f rfl ?_
            refine xc_seq ?_
            refine xc_region ?_
            refine xl_dec rfl rfl rfl (pv_eql rfl rfl rfl) (fun h10_0 => ?_) (fun h10_0 => ?_)
            · skip
              refine xl_pure rfl rfl rfl (pv_assign (v := .bool _) rfl rfl) ?_
              refine xl_nil ?_
              refine xthen_normal ?_
              refine xc_cond_t rfl ?_
              refine xc_seq ?_
              refine xc_region ?_
              refine xl_pure rfl rfl rfl (pv_fieldAddr rfl rfl) ?_
              refine xl_light rfl rfl rfl (lv_load (v := .int _ _) rfl rfl (by first | exact ld_blk hN0_0.blk rfl)) ?_
              refine xl_dec rfl rfl rfl (pv_eql rfl rfl rfl) (fun h11_2 => ?_) (fun h11_2 => ?_)
              · skip
                refine xl_pure rfl rfl rfl (pv_move (v := .bool _) rfl rfl) ?_
                refine xl_pure rfl rfl rfl (pv_fieldAddr rfl rfl) ?_
                refine xl_light rfl rfl rfl (lv_load (v := .int _ _) rfl rfl (by first | exact ld_blk hN0_0.blk rfl)) ?_
                refine xl_dec rfl rfl rfl (pv_eql rfl rfl rfl) (fun h11_6 => ?_) (fun h11_6 => ?_)
                · skip
                  refine xl_pure rfl rfl rfl (pv_pick_t (v := .bool _) rfl rfl rfl) ?_
                  refine xl_pure rfl rfl rfl (pv_move (v := .bool _) rfl rfl) ?_
                  refine xl_pure rfl rfl rfl (pv_fieldAddr rfl rfl) ?_
                  refine xl_light rfl rfl rfl (lv_load (v := .int _ _) rfl rfl (by first | exact ld_blk hN0_0.blk rfl)) ?_
                  refine xl_dec rfl rfl rfl (pv_eql rfl rfl rfl) (fun h11_11 => ?_) (fun h11_11 => ?_)
                  · skip
                    refine xl_pure rfl rfl rfl (pv_pick_t (v := .bool _) rfl rfl rfl) ?_
                    refine xl_pure rfl rfl rfl (pv_assign (v := .bool _) rfl rfl) ?_
                    refine xl_nil ?_
                    refine xthen_normal ?_
                    refine xc_ret ?_
                    refine xblock_ret ?_
                    refine xthen_ret ?_
                    refine fin_ret (res1 (v := .bool _) rfl rfl) ?_
                    exact ⟨_, rfl, (by first | exact ⟨fun _ => by ((try unfold Stands at *); (try unfold Six at *); (try unfold Fiv at *); (try unfold Nums at *); (try unfold Cops at *); omega), fun _ => rfl⟩ | exact ⟨fun h => absurd h (by decide), fun h => by ((try unfold Stands at *); (try unfold Six at *); (try unfold Fiv at *); (try unfold Nums at *); (try unfold Cops at *); omega)⟩), hN0_0.ext⟩
                  · skip
                    refine xl_pure rfl rfl rfl (pv_pick_t (v := .bool _) rfl rfl rfl) ?_
                    refine xl_pure rfl rfl rfl (pv_assign (v := .bool _) rfl rfl) ?_
                    refine xl_nil ?_
                    refine xthen_normal ?_
                    refine xc_ret ?_
                    refine xblock_ret ?_
                    refine xthen_ret ?_
                    refine fin_ret (res1 (v := .bool _) rfl rfl) ?_
                    exact ⟨_, rfl, (by first | exact ⟨fun _ => by ((try unfold Stands at *); (try unfold Six at *); (try unfold Fiv at *); (try unfold Nums at *); (try unfold Cops at *); omega), fun _ => rfl⟩ | exact ⟨fun h => absurd h (by decide), fun h => by ((try unfold Stands at *); (try unfold Six at *); (try unfold Fiv at *); (try unfold Nums at *); (try unfold Cops at *); omega)⟩), hN0_0.ext⟩
                · skip
                  refine xl_pure rfl rfl rfl (pv_pick_t (v := .bool _) rfl rfl rfl) ?_
                  refine xl_pure rfl rfl rfl (pv_move (v := .bool _) rfl rfl) ?_
                  refine xl_skip rfl rfl rfl ?_
                  refine xl_skip rfl rfl rfl ?_
                  refine xl_skip rfl rfl rfl ?_
                  refine xl_pure rfl rfl rfl (pv_pick_f (v := .bool _) rfl rfl rfl) ?_
                  refine xl_pure rfl rfl rfl (pv_assign (v := .bool _) rfl rfl) ?_
                  refine xl_nil ?_
                  refine xthen_normal ?_
                  refine xc_ret ?_
                  refine xblock_ret ?_
                  refine xthen_ret ?_
                  refine fin_ret (res1 (v := .bool _) rfl rfl) ?_
                  exact ⟨_, rfl, (by first | exact ⟨fun _ => by ((try unfold Stands at *); (try unfold Six at *); (try unfold Fiv at *); (try unfold Nums at *); (try unfold Cops at *); omega), fun _ => rfl⟩ | exact ⟨fun h => absurd h (by decide), fun h => by ((try unfold Stands at *); (try unfold Six at *); (try unfold Fiv at *); (try unfold Nums at *); (try unfold Cops at *); omega)⟩), hN0_0.ext⟩
              · skip
                refine xl_pure rfl rfl rfl (pv_move (v := .bool _) rfl rfl) ?_
                refine xl_skip rfl rfl rfl ?_
                refine xl_skip rfl rfl rfl ?_
                refine xl_skip rfl rfl rfl ?_
                refine xl_pure rfl rfl rfl (pv_pick_f (v := .bool _) rfl rfl rfl) ?_
                refine xl_pure rfl rfl rfl (pv_move (v := .bool _) rfl rfl) ?_
                refine xl_skip rfl rfl rfl ?_
                refine xl_skip rfl rfl rfl ?_
                refine xl_skip rfl rfl rfl ?_
                refine xl_pure rfl rfl rfl (pv_pick_f (v := .bool _) rfl rfl rfl) ?_
                refine xl_pure rfl rfl rfl (pv_assign (v := .bool _) rfl rfl) ?_
                refine xl_nil ?_
                refine xthen_normal ?_
                refine xc_ret ?_
                refine xblock_ret ?_
                refine xthen_ret ?_
                refine fin_ret (res1 (v := .bool _) rfl rfl) ?_
                exact ⟨_, rfl, (by first | exact ⟨fun _ => by ((try unfold Stands at *); (try unfold Six at *); (try unfold Fiv at *); (try unfold Nums at *); (try unfold Cops at *); omega), fun _ => rfl⟩ | exact ⟨fun h => absurd h (by decide), fun h => by ((try unfold Stands at *); (try unfold Six at *); (try unfold Fiv at *); (try unfold Nums at *); (try unfold Cops at *); omega)⟩), hN0_0.ext⟩
            · skip
              refine xl_pure rfl rfl rfl (pv_assign (v := .bool _) rfl rfl) ?_
              refine xl_nil ?_
              refine xthen_normal ?_
              refine xc_cond_f rfl ?_
              refine xc_skip ?_
              refine xblock_normal ?_
              refine xthen_normal ?_
              refine xc_seq ?_
              refine xc_region ?_
              refine xl_pure rfl rfl rfl (pv_assign (v := .bool _) rfl rfl) ?_
              refine xl_nil ?_
              refine xthen_normal ?_
              refine xc_ret ?_
              refine fin_ret (res1 (v := .bool _) rfl rfl) ?_
              exact ⟨_, rfl, (by first | exact ⟨fun _ => by ((try unfold Stands at *); (try unfold Six at *); (try unfold Fiv at *); (try unfold Nums at *); (try unfold Cops at *); omega), fun _ => rfl⟩ | exact ⟨fun h => absurd h (by decide), fun h => by ((try unfold Stands at *); (try unfold Six at *); (try unfold Fiv at *); (try unfold Nums at *); (try unfold Cops at *); omega)⟩), hN0_0.ext⟩

theorem c10 {O : Outer} {H : Heap} (j : J) (a : Option Addr) (c : Nat) (hs : Stks H a j.needs) (hl : j.needs.length < 1099511627776) :
    FnC Try.prog 10 #[.agg (jcs j a c).toArray] O H (fun v H' => ∃ e, v = .int .i64 e ∧ (Good j ∧ e = 0 ∨ ¬ Good j ∧ e = 1) ∧ Ext H H') := by
  refine fn_enter (A := [.agg (jcs j a c).toArray]) Try.func10 rfl rfl ?_
  refine xc_seq ?_
  refine xc_region ?_
  refine xl_heavy rfl rfl rfl (hv_box rfl rfl) ?_
  rintro v0_0 H0_0 ⟨b0_0, rfl, hN0_0⟩
  have hr := hN0_0.blk
  have hX := hN0_0.ext
  refine xl_pure rfl rfl rfl (pv_assign (v := .int _ _) rfl rfl) ?_
  refine xl_nil ?_
  refine xthen_normal ?_
  refine xc_cut (τ := Unit) (fun _ => [(1, .pointer (some ⟨b0_0, 0, none⟩))]) (fun _ H' => Six j ∧ H0_0 = H') ?_ ?_
  · skip
    refine xc_seq ?_
    refine xc_region ?_
    refine xl_pure rfl rfl rfl (pv_fieldAddr rfl rfl) ?_
    refine xl_light rfl rfl rfl (lv_load (v := .int _ _) rfl rfl (by first | exact ld_blk hr rfl)) ?_
    refine xl_pure rfl rfl rfl (pv_fieldAddr rfl rfl) ?_
    refine xl_light rfl rfl rfl (lv_load (v := .int _ _) rfl rfl (by first | exact ld_blk hr rfl)) ?_
    refine xl_pure rfl rfl rfl (pv_fieldAddr rfl rfl) ?_
    refine xl_light rfl rfl rfl (lv_load (v := .int _ _) rfl rfl (by first | exact ld_blk hr rfl)) ?_
    refine xl_pure rfl rfl rfl (pv_fieldAddr rfl rfl) ?_
    refine xl_light rfl rfl rfl (lv_load (v := .int _ _) rfl rfl (by first | exact ld_blk hr rfl)) ?_
    refine xl_pure rfl rfl rfl (pv_fieldAddr rfl rfl) ?_
    refine xl_light rfl rfl rfl (lv_load (v := .int _ _) rfl rfl (by first | exact ld_blk hr rfl)) ?_
    refine xl_pure rfl rfl rfl (pv_fieldAddr rfl rfl) ?_
    refine xl_light rfl rfl rfl (lv_load (v := .int _ _) rfl rfl (by first | exact ld_blk hr rfl)) ?_
    refine xl_pure rfl rfl rfl (pv_build_a (cs := [.int _ _, .int _ _, .int _ _, .int _ _, .int _ _, .int _ _]) rfl rfl rfl) ?_
    refine xl_pure rfl rfl rfl (pv_move (v := .int _ _) rfl rfl) ?_
    refine xl_nil ?_
    refine xthen_normal ?_
    refine xc_block ?_
    refine xc_loop (τ := Nat) (fun t => [(1, .pointer (some ⟨b0_0, 0, none⟩)), (20, .agg #[.int .i64 j.id, .int .i64 j.owner, .int .i64 j.man, .int .i64 j.bay, .int .i64 j.draft, .int .i64 j.time]), (21, .int .i64 (t : Nat))]) (fun t H' => t ≤ 6 ∧ (∀ i, i < t → 1 ≤ [j.id, j.owner, j.man, j.bay, j.draft, j.time].getD i 0 ∧ [j.id, j.owner, j.man, j.bay, j.draft, j.time].getD i 0 ≤ 1099511627776) ∧ H0_0 = H') (fun t H' => 6 - t) 0 ?_ ?_ ?_
    · exact ⟨rfl, rfl, rfl, trivial⟩
    · skip
      exact ⟨by omega, fun i hi => absurd hi (by omega), rfl⟩
    · intro σ
      rintro k Hl ⟨hk, hall, rfl⟩
      show XC _ _ _ (upds σ [(1, .pointer (some ⟨b0_0, 0, none⟩)), (20, .agg #[.int .i64 j.id, .int .i64 j.owner, .int .i64 j.man, .int .i64 j.bay, .int .i64 j.draft, .int .i64 j.time]), (21, .int .i64 (k : Nat))]) _
      refine xc_seq ?_
      refine xc_region ?_
      refine xl_dec rfl rfl rfl (pv_lss rfl rfl rfl) (fun h2_0 => ?_) (fun h2_0 => ?_)
      · skip
        refine xl_nil ?_
        refine xthen_normal ?_
        refine xc_seq ?_
        refine xc_cond_t rfl ?_
        refine xc_skip ?_
        refine xthen_normal ?_
        refine xc_seq ?_
        refine xc_block ?_
        refine xc_seq ?_
        refine xc_region ?_
        refine xl_pure rfl rfl rfl (pv_index_a rfl rfl rfl (by omega) (six_get _ _ _ _ _ _ k (by omega))) ?_
        refine xl_pure rfl rfl rfl (pv_assign (v := .int _ _) rfl rfl) ?_
        refine xl_nil ?_
        refine xthen_normal ?_
        refine xc_seq ?_
        refine xc_region ?_
        refine xl_pure rfl rfl rfl (pv_move (v := .int _ _) rfl rfl) ?_
        refine xl_heavy rfl rfl rfl (hv_call (g := 28) rfl rfl (c28 _ _ _) rfl) ?_
        rintro v4_1 H4_1 ⟨r4_1, rfl, hb4_1, rfl⟩
        cases r4_1
        · skip
          replace hb4_1 := mt hb4_1.2 (by decide)
          refine xl_pure rfl rfl rfl (pv_not rfl rfl) ?_
          refine xl_nil ?_
          refine xthen_normal ?_
          refine xc_cond_t rfl ?_
          refine xc_seq ?_
          refine xc_region ?_
          refine xl_pure rfl rfl rfl (pv_assign (v := .int _ _) rfl rfl) ?_
          refine xl_nil ?_
          refine xthen_normal ?_
          refine xc_ret ?_
          refine xblock_ret ?_
          refine xthen_ret ?_
          refine xthen_ret ?_
          refine xblock_ret ?_
          refine xthen_ret ?_
          refine fin_ret (res1 (v := .int _ _) rfl rfl) ?_
          refine ⟨1, rfl, .inr ⟨fun h => hb4_1 ?_, rfl⟩, hX⟩
          exact six_of h.1 k (by omega)
        · skip
          replace hb4_1 := hb4_1.1 rfl
          refine xl_pure rfl rfl rfl (pv_not rfl rfl) ?_
          refine xl_nil ?_
          refine xthen_normal ?_
          refine xc_cond_f rfl ?_
          refine xc_skip ?_
          refine xblock_normal ?_
          refine xthen_normal ?_
          refine xc_region ?_
          refine xl_pure rfl rfl rfl (pv_add rfl rfl rfl (fit_i64 (by omega))) ?_
          refine xl_pure rfl rfl rfl (pv_move (v := .int _ _) rfl rfl) ?_
          refine xl_nil ?_
          refine xthen_normal ?_
          exact ⟨k + 1, ⟨rfl, rfl, rfl, trivial⟩, ⟨by omega, fun i hi => by rcases Nat.lt_or_eq_of_le (Nat.le_of_lt_succ hi) with h | h; exact hall i h; subst h; exact hb4_1, rfl⟩, by omega⟩
      · skip
        refine xl_nil ?_
        refine xthen_normal ?_
        refine xc_seq ?_
        refine xc_cond_f rfl ?_
        refine xc_exit ?_
        refine xthen_exit ?_
        refine xthen_exit ?_
        refine xblock_same ?_
        refine xthen_normal ?_
        exact ⟨(), ⟨rfl, trivial⟩, six_all (fun i hi => hall i (by omega)), rfl⟩
  · intro σ
    rintro _ Hm ⟨hsix, rfl⟩
    refine xc_cut (τ := Bool) (fun t => [(1, .pointer (some ⟨b0_0, 0, none⟩)), (5, .bool t)]) (fun t H' => (t = true ↔ j.copies = 0) ∧ H0_0 = H') ?_ ?_
    · skip
      refine xc_region ?_
      refine xl_pure rfl rfl rfl (pv_fieldAddr rfl rfl) ?_
      refine xl_light rfl rfl rfl (lv_load (v := .int _ _) rfl rfl (by first | exact ld_blk hr rfl)) ?_
      refine xl_dec rfl rfl rfl (pv_eql rfl rfl rfl) (fun h7_2 => ?_) (fun h7_2 => ?_)
      · skip
        refine xl_pure rfl rfl rfl (pv_assign (v := .bool _) rfl rfl) ?_
        refine xl_nil ?_
        refine xthen_normal ?_
        exact ⟨_, ⟨rfl, rfl, trivial⟩, (by first | exact ⟨fun _ => by ((try unfold Stands at *); (try unfold Six at *); (try unfold Fiv at *); (try unfold Nums at *); (try unfold Cops at *); omega), fun _ => rfl⟩ | exact ⟨fun h => absurd h (by decide), fun h => by ((try unfold Stands at *); (try unfold Six at *); (try unfold Fiv at *); (try unfold Nums at *); (try unfold Cops at *); omega)⟩), rfl⟩
      · skip
        refine xl_pure rfl rfl rfl (pv_assign (v := .bool _) rfl rfl) ?_
        refine xl_nil ?_
        refine xthen_normal ?_
        exact ⟨_, ⟨rfl, rfl, trivial⟩, (by first | exact ⟨fun _ => by ((try unfold Stands at *); (try unfold Six at *); (try unfold Fiv at *); (try unfold Nums at *); (try unfold Cops at *); omega), fun _ => rfl⟩ | exact ⟨fun h => absurd h (by decide), fun h => by ((try unfold Stands at *); (try unfold Six at *); (try unfold Fiv at *); (try unfold Nums at *); (try unfold Cops at *); omega)⟩), rfl⟩
    · intro σ
      rintro cp Hm ⟨hcp, rfl⟩
      show XC _ _ _ (upds σ [(1, .pointer (some ⟨b0_0, 0, none⟩)), (5, .bool cp)]) _
      refine xc_cut (τ := Bool) (fun t => [(1, .pointer (some ⟨b0_0, 0, none⟩)), (5, .bool t)]) (fun t H' => (t = true ↔ Cops j) ∧ H0_0 = H') ?_ ?_
      · skip
        refine xc_seq ?_
        refine xc_region ?_
        refine xl_pure rfl rfl rfl (pv_fieldAddr rfl rfl) ?_
        refine xl_light rfl rfl rfl (lv_load (v := .int _ _) rfl rfl (by first | exact ld_blk hr rfl)) ?_
        refine xl_dec rfl rfl rfl (pv_eql rfl rfl rfl) (fun h8_2 => ?_) (fun h8_2 => ?_)
        · skip
          refine xl_nil ?_
          refine xthen_normal ?_
          refine xc_cond_t rfl ?_
          refine xc_region ?_
          refine xl_pure rfl rfl rfl (pv_fieldAddr rfl rfl) ?_
          refine xl_light rfl rfl rfl (lv_load (v := .int _ _) rfl rfl (by first | exact ld_blk hr rfl)) ?_
          refine xl_heavy rfl rfl rfl (hv_call (g := 28) rfl rfl (c28 _ _ _) rfl) ?_
          rintro v9_2 H9_2 ⟨r9_2, rfl, hb9_2, rfl⟩
          refine xl_pure rfl rfl rfl (pv_assign (v := .bool _) rfl rfl) ?_
          refine xl_nil ?_
          refine xthen_normal ?_
          exact ⟨_, ⟨rfl, rfl, trivial⟩, by first | (rw [hcp]; unfold Cops; omega) | (rw [hb9_2]; unfold Cops; omega), rfl⟩
        · skip
          refine xl_nil ?_
          refine xthen_normal ?_
          refine xc_cond_f rfl ?_
          refine xc_skip ?_
          refine xthen_normal ?_
          exact ⟨_, ⟨rfl, rfl, trivial⟩, by first | (rw [hcp]; unfold Cops; omega) | (rw [hb9_2]; unfold Cops; omega), rfl⟩
      · intro σ
        rintro cq Hm ⟨hcq, rfl⟩
        show XC _ _ _ (upds σ [(1, .pointer (some ⟨b0_0, 0, none⟩)), (5, .bool cq)]) _
        refine xc_cut (τ := Bool) (fun t => [(1, .pointer (some ⟨b0_0, 0, none⟩)), (5, .bool cq), (6, .bool t)]) (fun t H' => (t = true ↔ Nums j) ∧ H0_0 = H') ?_ ?_
        · skip
          refine xc_region ?_
          refine xl_pure rfl rfl rfl (pv_fieldAddr rfl rfl) ?_
          refine xl_light rfl rfl rfl (lv_load (v := .int _ _) rfl rfl (by first | exact ld_blk hr rfl)) ?_
          refine xl_heavy rfl rfl rfl (hv_call (g := 28) rfl rfl (c28 _ _ _) rfl) ?_
          rintro v10_2 H10_2 ⟨r10_2, rfl, hb10_2, rfl⟩
          cases r10_2
          · skip
            replace hb10_2 := mt hb10_2.2 (by decide)
            refine xl_pure rfl rfl rfl (pv_move (v := .bool _) rfl rfl) ?_
            refine xl_skip rfl rfl rfl ?_
            refine xl_skip rfl rfl rfl ?_
            refine xl_skip rfl rfl rfl ?_
            refine xl_pure rfl rfl rfl (pv_pick_f (v := .bool _) rfl rfl rfl) ?_
            refine xl_pure rfl rfl rfl (pv_move (v := .bool _) rfl rfl) ?_
            refine xl_skip rfl rfl rfl ?_
            refine xl_skip rfl rfl rfl ?_
            refine xl_skip rfl rfl rfl ?_
            refine xl_pure rfl rfl rfl (pv_pick_f (v := .bool _) rfl rfl rfl) ?_
            refine xl_pure rfl rfl rfl (pv_move (v := .bool _) rfl rfl) ?_
            refine xl_skip rfl rfl rfl ?_
            refine xl_skip rfl rfl rfl ?_
            refine xl_skip rfl rfl rfl ?_
            refine xl_pure rfl rfl rfl (pv_pick_f (v := .bool _) rfl rfl rfl) ?_
            refine xl_pure rfl rfl rfl (pv_assign (v := .bool _) rfl rfl) ?_
            refine xl_nil ?_
            refine xthen_normal ?_
            exact ⟨_, ⟨rfl, rfl, rfl, trivial⟩, (by first | exact ⟨fun _ => by ((try unfold Stands at *); (try unfold Six at *); (try unfold Fiv at *); (try unfold Nums at *); (try unfold Cops at *); omega), fun _ => rfl⟩ | exact ⟨fun h => absurd h (by decide), fun h => by ((try unfold Stands at *); (try unfold Six at *); (try unfold Fiv at *); (try unfold Nums at *); (try unfold Cops at *); omega)⟩), rfl⟩
          · skip
            replace hb10_2 := hb10_2.1 rfl
            refine xl_pure rfl rfl rfl (pv_move (v := .bool _) rfl rfl) ?_
            refine xl_pure rfl rfl rfl (pv_fieldAddr rfl rfl) ?_
            refine xl_light rfl rfl rfl (lv_load (v := .int _ _) rfl rfl (by first | exact ld_blk hr rfl)) ?_
            refine xl_heavy rfl rfl rfl (hv_call (g := 28) rfl rfl (c28 _ _ _) rfl) ?_
            rintro v10_6 H10_6 ⟨r10_6, rfl, hb10_6, rfl⟩
            cases r10_6
            · skip
              replace hb10_6 := mt hb10_6.2 (by decide)
              refine xl_pure rfl rfl rfl (pv_pick_t (v := .bool _) rfl rfl rfl) ?_
              refine xl_pure rfl rfl rfl (pv_move (v := .bool _) rfl rfl) ?_
              refine xl_skip rfl rfl rfl ?_
              refine xl_skip rfl rfl rfl ?_
              refine xl_skip rfl rfl rfl ?_
              refine xl_pure rfl rfl rfl (pv_pick_f (v := .bool _) rfl rfl rfl) ?_
              refine xl_pure rfl rfl rfl (pv_move (v := .bool _) rfl rfl) ?_
              refine xl_skip rfl rfl rfl ?_
              refine xl_skip rfl rfl rfl ?_
              refine xl_skip rfl rfl rfl ?_
              refine xl_pure rfl rfl rfl (pv_pick_f (v := .bool _) rfl rfl rfl) ?_
              refine xl_pure rfl rfl rfl (pv_assign (v := .bool _) rfl rfl) ?_
              refine xl_nil ?_
              refine xthen_normal ?_
              exact ⟨_, ⟨rfl, rfl, rfl, trivial⟩, (by first | exact ⟨fun _ => by ((try unfold Stands at *); (try unfold Six at *); (try unfold Fiv at *); (try unfold Nums at *); (try unfold Cops at *); omega), fun _ => rfl⟩ | exact ⟨fun h => absurd h (by decide), fun h => by ((try unfold Stands at *); (try unfold Six at *); (try unfold Fiv at *); (try unfold Nums at *); (try unfold Cops at *); omega)⟩), rfl⟩
            · skip
              replace hb10_6 := hb10_6.1 rfl
              refine xl_pure rfl rfl rfl (pv_pick_t (v := .bool _) rfl rfl rfl) ?_
              refine xl_pure rfl rfl rfl (pv_move (v := .bool _) rfl rfl) ?_
              refine xl_pure rfl rfl rfl (pv_fieldAddr rfl rfl) ?_
              refine xl_light rfl rfl rfl (lv_load (v := .int _ _) rfl rfl (by first | exact ld_blk hr rfl)) ?_
              refine xl_heavy rfl rfl rfl (hv_call (g := 28) rfl rfl (c28 _ _ _) rfl) ?_
              rintro v10_11 H10_11 ⟨r10_11, rfl, hb10_11, rfl⟩
              cases r10_11
              · skip
                replace hb10_11 := mt hb10_11.2 (by decide)
                refine xl_pure rfl rfl rfl (pv_pick_t (v := .bool _) rfl rfl rfl) ?_
                refine xl_pure rfl rfl rfl (pv_move (v := .bool _) rfl rfl) ?_
                refine xl_skip rfl rfl rfl ?_
                refine xl_skip rfl rfl rfl ?_
                refine xl_skip rfl rfl rfl ?_
                refine xl_pure rfl rfl rfl (pv_pick_f (v := .bool _) rfl rfl rfl) ?_
                refine xl_pure rfl rfl rfl (pv_assign (v := .bool _) rfl rfl) ?_
                refine xl_nil ?_
                refine xthen_normal ?_
                exact ⟨_, ⟨rfl, rfl, rfl, trivial⟩, (by first | exact ⟨fun _ => by ((try unfold Stands at *); (try unfold Six at *); (try unfold Fiv at *); (try unfold Nums at *); (try unfold Cops at *); omega), fun _ => rfl⟩ | exact ⟨fun h => absurd h (by decide), fun h => by ((try unfold Stands at *); (try unfold Six at *); (try unfold Fiv at *); (try unfold Nums at *); (try unfold Cops at *); omega)⟩), rfl⟩
              · skip
                replace hb10_11 := hb10_11.1 rfl
                refine xl_pure rfl rfl rfl (pv_pick_t (v := .bool _) rfl rfl rfl) ?_
                refine xl_pure rfl rfl rfl (pv_move (v := .bool _) rfl rfl) ?_
                refine xl_pure rfl rfl rfl (pv_fieldAddr rfl rfl) ?_
                refine xl_light rfl rfl rfl (lv_load (v := .int _ _) rfl rfl (by first | exact ld_blk hr rfl)) ?_
                refine xl_heavy rfl rfl rfl (hv_call (g := 28) rfl rfl (c28 _ _ _) rfl) ?_
                rintro v10_16 H10_16 ⟨r10_16, rfl, hb10_16, rfl⟩
                cases r10_16
                · skip
                  replace hb10_16 := mt hb10_16.2 (by decide)
                  refine xl_pure rfl rfl rfl (pv_pick_t (v := .bool _) rfl rfl rfl) ?_
                  refine xl_pure rfl rfl rfl (pv_assign (v := .bool _) rfl rfl) ?_
                  refine xl_nil ?_
                  refine xthen_normal ?_
                  exact ⟨_, ⟨rfl, rfl, rfl, trivial⟩, (by first | exact ⟨fun _ => by ((try unfold Stands at *); (try unfold Six at *); (try unfold Fiv at *); (try unfold Nums at *); (try unfold Cops at *); omega), fun _ => rfl⟩ | exact ⟨fun h => absurd h (by decide), fun h => by ((try unfold Stands at *); (try unfold Six at *); (try unfold Fiv at *); (try unfold Nums at *); (try unfold Cops at *); omega)⟩), rfl⟩
                · skip
                  replace hb10_16 := hb10_16.1 rfl
                  refine xl_pure rfl rfl rfl (pv_pick_t (v := .bool _) rfl rfl rfl) ?_
                  refine xl_pure rfl rfl rfl (pv_assign (v := .bool _) rfl rfl) ?_
                  refine xl_nil ?_
                  refine xthen_normal ?_
                  exact ⟨_, ⟨rfl, rfl, rfl, trivial⟩, (by first | exact ⟨fun _ => by ((try unfold Stands at *); (try unfold Six at *); (try unfold Fiv at *); (try unfold Nums at *); (try unfold Cops at *); omega), fun _ => rfl⟩ | exact ⟨fun h => absurd h (by decide), fun h => by ((try unfold Stands at *); (try unfold Six at *); (try unfold Fiv at *); (try unfold Nums at *); (try unfold Cops at *); omega)⟩), rfl⟩
        · intro σ
          rintro nb Hm ⟨hnb, rfl⟩
          show XC _ _ _ (upds σ [(1, .pointer (some ⟨b0_0, 0, none⟩)), (5, .bool cq), (6, .bool nb)]) _
          refine xc_cut (τ := Bool) (fun t => [(1, .pointer (some ⟨b0_0, 0, none⟩)), (5, .bool cq), (6, .bool nb), (7, .bool t)]) (fun t H' => (t = true ↔ Nds j) ∧ Blk H' b0_0 (jcs j a c) 26 ∧ Ext H H') ?_ ?_
          · skip
            refine xc_region ?_
            refine xl_pure rfl rfl rfl (pv_fieldAddr rfl rfl) ?_
            refine xl_light rfl rfl rfl (lv_load (v := .slice _ _ _) rfl rfl (by first | exact ld_blk hr rfl)) ?_
            refine xl_heavy rfl rfl rfl (hv_call (g := 29) rfl rfl (c29 j.needs a c 32 (hs.ext hX) (by omega)) rfl) ?_
            rintro v11_2 H11_2 ⟨e11_2, rfl, hg11_2, hE11_2⟩
            have hX := hX.trans hE11_2
            have hr := hr.ext hE11_2
            rcases hg11_2 with ⟨hg11_2, rfl⟩ | ⟨hg11_2, rfl⟩
            · skip
              refine xl_dec rfl rfl rfl (pv_eql rfl rfl rfl) (fun h11_3 => ?_) (fun h11_3 => ?_)
              · skip
                refine xl_pure rfl rfl rfl (pv_move (v := .bool _) rfl rfl) ?_
                refine xl_pure rfl rfl rfl (pv_fieldAddr rfl rfl) ?_
                refine xl_light rfl rfl rfl (lv_load (v := .int _ _) rfl rfl (by first | exact ld_blk hr rfl)) ?_
                refine xl_dec rfl rfl rfl (pv_eql rfl rfl rfl) (fun h11_7 => ?_) (fun h11_7 => ?_)
                · skip
                  refine xl_pure rfl rfl rfl (pv_move (v := .bool _) rfl rfl) ?_
                  refine xl_skip rfl rfl rfl ?_
                  refine xl_skip rfl rfl rfl ?_
                  refine xl_skip rfl rfl rfl ?_
                  refine xl_skip rfl rfl rfl ?_
                  refine xl_pure rfl rfl rfl (pv_pick_t (v := .bool _) rfl rfl rfl) ?_
                  refine xl_pure rfl rfl rfl (pv_pick_t (v := .bool _) rfl rfl rfl) ?_
                  refine xl_pure rfl rfl rfl (pv_assign (v := .bool _) rfl rfl) ?_
                  refine xl_nil ?_
                  refine xthen_normal ?_
                  refine ⟨_, ⟨rfl, rfl, rfl, rfl, trivial⟩, ?_, hr, hX⟩
                  first
                    | exact ⟨fun _ => ⟨hg11_2, by omega⟩, fun _ => rfl⟩
                    | exact ⟨fun h => absurd h (by decide), fun h => absurd h.1 hg11_2⟩
                    | exact ⟨fun h => absurd h (by decide), fun h => by have h := h.2; omega⟩
                · skip
                  refine xl_pure rfl rfl rfl (pv_move (v := .bool _) rfl rfl) ?_
                  refine xl_pure rfl rfl rfl (pv_fieldAddr rfl rfl) ?_
                  refine xl_light rfl rfl rfl (lv_load (v := .slice _ _ _) rfl rfl (by first | exact ld_blk hr rfl)) ?_
                  refine xl_pure rfl rfl rfl (pv_len_l rfl rfl) ?_
                  refine xl_dec rfl rfl rfl (pv_eql rfl rfl rfl) (fun h11_12 => ?_) (fun h11_12 => ?_)
                  · skip
                    refine xl_pure rfl rfl rfl (pv_pick_f (v := .bool _) rfl rfl rfl) ?_
                    refine xl_pure rfl rfl rfl (pv_pick_t (v := .bool _) rfl rfl rfl) ?_
                    refine xl_pure rfl rfl rfl (pv_assign (v := .bool _) rfl rfl) ?_
                    refine xl_nil ?_
                    refine xthen_normal ?_
                    refine ⟨_, ⟨rfl, rfl, rfl, rfl, trivial⟩, ?_, hr, hX⟩
                    first
                      | exact ⟨fun _ => ⟨hg11_2, by omega⟩, fun _ => rfl⟩
                      | exact ⟨fun h => absurd h (by decide), fun h => absurd h.1 hg11_2⟩
                      | exact ⟨fun h => absurd h (by decide), fun h => by have h := h.2; omega⟩
                  · skip
                    refine xl_pure rfl rfl rfl (pv_pick_f (v := .bool _) rfl rfl rfl) ?_
                    refine xl_pure rfl rfl rfl (pv_pick_t (v := .bool _) rfl rfl rfl) ?_
                    refine xl_pure rfl rfl rfl (pv_assign (v := .bool _) rfl rfl) ?_
                    refine xl_nil ?_
                    refine xthen_normal ?_
                    refine ⟨_, ⟨rfl, rfl, rfl, rfl, trivial⟩, ?_, hr, hX⟩
                    first
                      | exact ⟨fun _ => ⟨hg11_2, by omega⟩, fun _ => rfl⟩
                      | exact ⟨fun h => absurd h (by decide), fun h => absurd h.1 hg11_2⟩
                      | exact ⟨fun h => absurd h (by decide), fun h => by have h := h.2; omega⟩
              · exact absurd (by decide) h11_3
            · skip
              refine xl_dec rfl rfl rfl (pv_eql rfl rfl rfl) (fun h11_3 => ?_) (fun h11_3 => ?_)
              · exact absurd h11_3 (by decide)
              · skip
                refine xl_pure rfl rfl rfl (pv_move (v := .bool _) rfl rfl) ?_
                refine xl_skip rfl rfl rfl ?_
                refine xl_skip rfl rfl rfl ?_
                refine xl_skip rfl rfl rfl ?_
                refine xl_skip rfl rfl rfl ?_
                refine xl_skip rfl rfl rfl ?_
                refine xl_skip rfl rfl rfl ?_
                refine xl_skip rfl rfl rfl ?_
                refine xl_skip rfl rfl rfl ?_
                refine xl_skip rfl rfl rfl ?_
                refine xl_pure rfl rfl rfl (pv_pick_f (v := .bool _) rfl rfl rfl) ?_
                refine xl_pure rfl rfl rfl (pv_assign (v := .bool _) rfl rfl) ?_
                refine xl_nil ?_
                refine xthen_normal ?_
                refine ⟨_, ⟨rfl, rfl, rfl, rfl, trivial⟩, ?_, hr, hX⟩
                first
                  | exact ⟨fun _ => ⟨hg11_2, by omega⟩, fun _ => rfl⟩
                  | exact ⟨fun h => absurd h (by decide), fun h => absurd h.1 hg11_2⟩
                  | exact ⟨fun h => absurd h (by decide), fun h => by have h := h.2; omega⟩
          · intro σ
            clear hr hX
            rintro nd Hm ⟨hnd, hr, hX⟩
            show XC _ _ _ (upds σ [(1, .pointer (some ⟨b0_0, 0, none⟩)), (5, .bool cq), (6, .bool nb), (7, .bool nd)]) _
            refine xc_seq ?_
            refine xc_seq ?_
            refine xc_region ?_
            refine xl_pure rfl rfl rfl (pv_move (v := .bool _) rfl rfl) ?_
            cases nb
            · skip
              replace hnb := mt hnb.2 (by decide)
              refine xl_pure rfl rfl rfl (pv_move (v := .bool _) rfl rfl) ?_
              refine xl_skip rfl rfl rfl ?_
              refine xl_pure rfl rfl rfl (pv_pick_f (v := .bool _) rfl rfl rfl) ?_
              refine xl_pure rfl rfl rfl (pv_move (v := .bool _) rfl rfl) ?_
              refine xl_skip rfl rfl rfl ?_
              refine xl_pure rfl rfl rfl (pv_pick_f (v := .bool _) rfl rfl rfl) ?_
              refine xl_pure rfl rfl rfl (pv_move (v := .bool _) rfl rfl) ?_
              refine xl_skip rfl rfl rfl ?_
              refine xl_skip rfl rfl rfl ?_
              refine xl_pure rfl rfl rfl (pv_pick_f (v := .bool _) rfl rfl rfl) ?_
              refine xl_nil ?_
              refine xthen_normal ?_
              refine xc_cond_f rfl ?_
              refine xc_skip ?_
              refine xthen_normal ?_
              refine xc_seq ?_
              refine xc_region ?_
              refine xl_pure rfl rfl rfl (pv_assign (v := .int _ _) rfl rfl) ?_
              refine xl_nil ?_
              refine xthen_normal ?_
              refine xc_ret ?_
              refine fin_ret (res1 (v := .int _ _) rfl rfl) ?_
              refine ⟨1, rfl, .inr ⟨fun h => ?_, rfl⟩, by first | exact hX | exact hX.trans hE12_9⟩
              first | exact hnb h.2.1 | exact hcq h.2.2.1 | exact hnd h.2.2.2.1 | exact hb12_9 h.2.2.2.2
            · skip
              replace hnb := hnb.1 rfl
              refine xl_pure rfl rfl rfl (pv_move (v := .bool _) rfl rfl) ?_
              refine xl_pure rfl rfl rfl (pv_move (v := .bool _) rfl rfl) ?_
              cases cq
              · skip
                replace hcq := mt hcq.2 (by decide)
                refine xl_pure rfl rfl rfl (pv_pick_t (v := .bool _) rfl rfl rfl) ?_
                refine xl_pure rfl rfl rfl (pv_move (v := .bool _) rfl rfl) ?_
                refine xl_skip rfl rfl rfl ?_
                refine xl_pure rfl rfl rfl (pv_pick_f (v := .bool _) rfl rfl rfl) ?_
                refine xl_pure rfl rfl rfl (pv_move (v := .bool _) rfl rfl) ?_
                refine xl_skip rfl rfl rfl ?_
                refine xl_skip rfl rfl rfl ?_
                refine xl_pure rfl rfl rfl (pv_pick_f (v := .bool _) rfl rfl rfl) ?_
                refine xl_nil ?_
                refine xthen_normal ?_
                refine xc_cond_f rfl ?_
                refine xc_skip ?_
                refine xthen_normal ?_
                refine xc_seq ?_
                refine xc_region ?_
                refine xl_pure rfl rfl rfl (pv_assign (v := .int _ _) rfl rfl) ?_
                refine xl_nil ?_
                refine xthen_normal ?_
                refine xc_ret ?_
                refine fin_ret (res1 (v := .int _ _) rfl rfl) ?_
                refine ⟨1, rfl, .inr ⟨fun h => ?_, rfl⟩, by first | exact hX | exact hX.trans hE12_9⟩
                first | exact hnb h.2.1 | exact hcq h.2.2.1 | exact hnd h.2.2.2.1 | exact hb12_9 h.2.2.2.2
              · skip
                replace hcq := hcq.1 rfl
                refine xl_pure rfl rfl rfl (pv_pick_t (v := .bool _) rfl rfl rfl) ?_
                refine xl_pure rfl rfl rfl (pv_move (v := .bool _) rfl rfl) ?_
                refine xl_pure rfl rfl rfl (pv_move (v := .bool _) rfl rfl) ?_
                cases nd
                · skip
                  replace hnd := mt hnd.2 (by decide)
                  refine xl_pure rfl rfl rfl (pv_pick_t (v := .bool _) rfl rfl rfl) ?_
                  refine xl_pure rfl rfl rfl (pv_move (v := .bool _) rfl rfl) ?_
                  refine xl_skip rfl rfl rfl ?_
                  refine xl_skip rfl rfl rfl ?_
                  refine xl_pure rfl rfl rfl (pv_pick_f (v := .bool _) rfl rfl rfl) ?_
                  refine xl_nil ?_
                  refine xthen_normal ?_
                  refine xc_cond_f rfl ?_
                  refine xc_skip ?_
                  refine xthen_normal ?_
                  refine xc_seq ?_
                  refine xc_region ?_
                  refine xl_pure rfl rfl rfl (pv_assign (v := .int _ _) rfl rfl) ?_
                  refine xl_nil ?_
                  refine xthen_normal ?_
                  refine xc_ret ?_
                  refine fin_ret (res1 (v := .int _ _) rfl rfl) ?_
                  refine ⟨1, rfl, .inr ⟨fun h => ?_, rfl⟩, by first | exact hX | exact hX.trans hE12_9⟩
                  first | exact hnb h.2.1 | exact hcq h.2.2.1 | exact hnd h.2.2.2.1 | exact hb12_9 h.2.2.2.2
                · skip
                  replace hnd := hnd.1 rfl
                  refine xl_pure rfl rfl rfl (pv_pick_t (v := .bool _) rfl rfl rfl) ?_
                  refine xl_pure rfl rfl rfl (pv_move (v := .bool _) rfl rfl) ?_
                  refine xl_light rfl rfl rfl (lv_load (v := .agg _) rfl rfl (by first | exact ld_blk_a hr rfl rfl)) ?_
                  refine xl_heavy rfl rfl rfl (hv_call (g := 30) rfl rfl (c30 j a c (by ((try unfold Stands at *); (try unfold Six at *); (try unfold Fiv at *); (try unfold Nums at *); (try unfold Cops at *); omega))) rfl) ?_
                  rintro v12_9 H12_9 ⟨r12_9, rfl, hb12_9, hE12_9⟩
                  cases r12_9
                  · skip
                    replace hb12_9 := mt hb12_9.2 (by decide)
                    refine xl_pure rfl rfl rfl (pv_pick_t (v := .bool _) rfl rfl rfl) ?_
                    refine xl_nil ?_
                    refine xthen_normal ?_
                    refine xc_cond_f rfl ?_
                    refine xc_skip ?_
                    refine xthen_normal ?_
                    refine xc_seq ?_
                    refine xc_region ?_
                    refine xl_pure rfl rfl rfl (pv_assign (v := .int _ _) rfl rfl) ?_
                    refine xl_nil ?_
                    refine xthen_normal ?_
                    refine xc_ret ?_
                    refine fin_ret (res1 (v := .int _ _) rfl rfl) ?_
                    refine ⟨1, rfl, .inr ⟨fun h => ?_, rfl⟩, by first | exact hX | exact hX.trans hE12_9⟩
                    first | exact hnb h.2.1 | exact hcq h.2.2.1 | exact hnd h.2.2.2.1 | exact hb12_9 h.2.2.2.2
                  · skip
                    replace hb12_9 := hb12_9.1 rfl
                    refine xl_pure rfl rfl rfl (pv_pick_t (v := .bool _) rfl rfl rfl) ?_
                    refine xl_nil ?_
                    refine xthen_normal ?_
                    refine xc_cond_t rfl ?_
                    refine xc_seq ?_
                    refine xc_region ?_
                    refine xl_pure rfl rfl rfl (pv_assign (v := .int _ _) rfl rfl) ?_
                    refine xl_nil ?_
                    refine xthen_normal ?_
                    refine xc_ret ?_
                    refine xthen_ret ?_
                    refine fin_ret (res1 (v := .int _ _) rfl rfl) ?_
                    exact ⟨0, rfl, .inl ⟨⟨hsix, hnb, hcq, hnd, hb12_9⟩, rfl⟩, hX.trans hE12_9⟩

theorem c13 {O : Outer} {H : Heap} (j : J) (a : Option Addr) (c : Nat) (hs : Stks H a j.needs) (hl : j.needs.length < 1099511627776) :
    FnC Try.prog 13 #[.agg (jcs j a c).toArray] O H (fun v H' => ∃ e, v = .int .i64 e ∧ (Good j ∧ e = 0 ∨ ¬ Good j ∧ e = 1) ∧ Ext H H') := by
  refine fn_enter (A := [.agg (jcs j a c).toArray]) Try.func13 rfl rfl ?_
  refine xc_seq ?_
  refine xc_region ?_
  refine xl_heavy rfl rfl rfl (hv_box rfl rfl) ?_
  rintro v0_0 H0_0 ⟨b0_0, rfl, hN0_0⟩
  have hr := hN0_0.blk
  have hX := hN0_0.ext
  refine xl_pure rfl rfl rfl (pv_assign (v := .int _ _) rfl rfl) ?_
  refine xl_nil ?_
  refine xthen_normal ?_
  refine xc_cut (τ := Bool) (fun t => [(1, .pointer (some ⟨b0_0, 0, none⟩)), (3, .bool t)]) (fun t H' => (t = true ↔ Fiv j) ∧ H0_0 = H') ?_ ?_
  · skip
    refine xc_region ?_
    refine xl_pure rfl rfl rfl (pv_fieldAddr rfl rfl) ?_
    refine xl_light rfl rfl rfl (lv_load (v := .int _ _) rfl rfl (by first | exact ld_blk hr rfl)) ?_
    refine xl_heavy rfl rfl rfl (hv_call (g := 31) rfl rfl (c31 _ _ _) rfl) ?_
    rintro v1_2 H1_2 ⟨r1_2, rfl, hb1_2, rfl⟩
    cases r1_2
    · skip
      replace hb1_2 := mt hb1_2.2 (by decide)
      refine xl_pure rfl rfl rfl (pv_move (v := .bool _) rfl rfl) ?_
      refine xl_skip rfl rfl rfl ?_
      refine xl_skip rfl rfl rfl ?_
      refine xl_skip rfl rfl rfl ?_
      refine xl_pure rfl rfl rfl (pv_pick_f (v := .bool _) rfl rfl rfl) ?_
      refine xl_pure rfl rfl rfl (pv_move (v := .bool _) rfl rfl) ?_
      refine xl_skip rfl rfl rfl ?_
      refine xl_skip rfl rfl rfl ?_
      refine xl_skip rfl rfl rfl ?_
      refine xl_pure rfl rfl rfl (pv_pick_f (v := .bool _) rfl rfl rfl) ?_
      refine xl_pure rfl rfl rfl (pv_move (v := .bool _) rfl rfl) ?_
      refine xl_skip rfl rfl rfl ?_
      refine xl_skip rfl rfl rfl ?_
      refine xl_skip rfl rfl rfl ?_
      refine xl_pure rfl rfl rfl (pv_pick_f (v := .bool _) rfl rfl rfl) ?_
      refine xl_pure rfl rfl rfl (pv_move (v := .bool _) rfl rfl) ?_
      refine xl_skip rfl rfl rfl ?_
      refine xl_skip rfl rfl rfl ?_
      refine xl_skip rfl rfl rfl ?_
      refine xl_pure rfl rfl rfl (pv_pick_f (v := .bool _) rfl rfl rfl) ?_
      refine xl_pure rfl rfl rfl (pv_assign (v := .bool _) rfl rfl) ?_
      refine xl_nil ?_
      refine xthen_normal ?_
      exact ⟨_, ⟨rfl, rfl, trivial⟩, (by first | exact ⟨fun _ => by ((try unfold Stands at *); (try unfold Six at *); (try unfold Fiv at *); (try unfold Nums at *); (try unfold Cops at *); omega), fun _ => rfl⟩ | exact ⟨fun h => absurd h (by decide), fun h => by ((try unfold Stands at *); (try unfold Six at *); (try unfold Fiv at *); (try unfold Nums at *); (try unfold Cops at *); omega)⟩), rfl⟩
    · skip
      replace hb1_2 := hb1_2.1 rfl
      refine xl_pure rfl rfl rfl (pv_move (v := .bool _) rfl rfl) ?_
      refine xl_pure rfl rfl rfl (pv_fieldAddr rfl rfl) ?_
      refine xl_light rfl rfl rfl (lv_load (v := .int _ _) rfl rfl (by first | exact ld_blk hr rfl)) ?_
      refine xl_heavy rfl rfl rfl (hv_call (g := 31) rfl rfl (c31 _ _ _) rfl) ?_
      rintro v1_6 H1_6 ⟨r1_6, rfl, hb1_6, rfl⟩
      cases r1_6
      · skip
        replace hb1_6 := mt hb1_6.2 (by decide)
        refine xl_pure rfl rfl rfl (pv_pick_t (v := .bool _) rfl rfl rfl) ?_
        refine xl_pure rfl rfl rfl (pv_move (v := .bool _) rfl rfl) ?_
        refine xl_skip rfl rfl rfl ?_
        refine xl_skip rfl rfl rfl ?_
        refine xl_skip rfl rfl rfl ?_
        refine xl_pure rfl rfl rfl (pv_pick_f (v := .bool _) rfl rfl rfl) ?_
        refine xl_pure rfl rfl rfl (pv_move (v := .bool _) rfl rfl) ?_
        refine xl_skip rfl rfl rfl ?_
        refine xl_skip rfl rfl rfl ?_
        refine xl_skip rfl rfl rfl ?_
        refine xl_pure rfl rfl rfl (pv_pick_f (v := .bool _) rfl rfl rfl) ?_
        refine xl_pure rfl rfl rfl (pv_move (v := .bool _) rfl rfl) ?_
        refine xl_skip rfl rfl rfl ?_
        refine xl_skip rfl rfl rfl ?_
        refine xl_skip rfl rfl rfl ?_
        refine xl_pure rfl rfl rfl (pv_pick_f (v := .bool _) rfl rfl rfl) ?_
        refine xl_pure rfl rfl rfl (pv_assign (v := .bool _) rfl rfl) ?_
        refine xl_nil ?_
        refine xthen_normal ?_
        exact ⟨_, ⟨rfl, rfl, trivial⟩, (by first | exact ⟨fun _ => by ((try unfold Stands at *); (try unfold Six at *); (try unfold Fiv at *); (try unfold Nums at *); (try unfold Cops at *); omega), fun _ => rfl⟩ | exact ⟨fun h => absurd h (by decide), fun h => by ((try unfold Stands at *); (try unfold Six at *); (try unfold Fiv at *); (try unfold Nums at *); (try unfold Cops at *); omega)⟩), rfl⟩
      · skip
        replace hb1_6 := hb1_6.1 rfl
        refine xl_pure rfl rfl rfl (pv_pick_t (v := .bool _) rfl rfl rfl) ?_
        refine xl_pure rfl rfl rfl (pv_move (v := .bool _) rfl rfl) ?_
        refine xl_pure rfl rfl rfl (pv_fieldAddr rfl rfl) ?_
        refine xl_light rfl rfl rfl (lv_load (v := .int _ _) rfl rfl (by first | exact ld_blk hr rfl)) ?_
        refine xl_heavy rfl rfl rfl (hv_call (g := 31) rfl rfl (c31 _ _ _) rfl) ?_
        rintro v1_11 H1_11 ⟨r1_11, rfl, hb1_11, rfl⟩
        cases r1_11
        · skip
          replace hb1_11 := mt hb1_11.2 (by decide)
          refine xl_pure rfl rfl rfl (pv_pick_t (v := .bool _) rfl rfl rfl) ?_
          refine xl_pure rfl rfl rfl (pv_move (v := .bool _) rfl rfl) ?_
          refine xl_skip rfl rfl rfl ?_
          refine xl_skip rfl rfl rfl ?_
          refine xl_skip rfl rfl rfl ?_
          refine xl_pure rfl rfl rfl (pv_pick_f (v := .bool _) rfl rfl rfl) ?_
          refine xl_pure rfl rfl rfl (pv_move (v := .bool _) rfl rfl) ?_
          refine xl_skip rfl rfl rfl ?_
          refine xl_skip rfl rfl rfl ?_
          refine xl_skip rfl rfl rfl ?_
          refine xl_pure rfl rfl rfl (pv_pick_f (v := .bool _) rfl rfl rfl) ?_
          refine xl_pure rfl rfl rfl (pv_assign (v := .bool _) rfl rfl) ?_
          refine xl_nil ?_
          refine xthen_normal ?_
          exact ⟨_, ⟨rfl, rfl, trivial⟩, (by first | exact ⟨fun _ => by ((try unfold Stands at *); (try unfold Six at *); (try unfold Fiv at *); (try unfold Nums at *); (try unfold Cops at *); omega), fun _ => rfl⟩ | exact ⟨fun h => absurd h (by decide), fun h => by ((try unfold Stands at *); (try unfold Six at *); (try unfold Fiv at *); (try unfold Nums at *); (try unfold Cops at *); omega)⟩), rfl⟩
        · skip
          replace hb1_11 := hb1_11.1 rfl
          refine xl_pure rfl rfl rfl (pv_pick_t (v := .bool _) rfl rfl rfl) ?_
          refine xl_pure rfl rfl rfl (pv_move (v := .bool _) rfl rfl) ?_
          refine xl_pure rfl rfl rfl (pv_fieldAddr rfl rfl) ?_
          refine xl_light rfl rfl rfl (lv_load (v := .int _ _) rfl rfl (by first | exact ld_blk hr rfl)) ?_
          refine xl_heavy rfl rfl rfl (hv_call (g := 31) rfl rfl (c31 _ _ _) rfl) ?_
          rintro v1_16 H1_16 ⟨r1_16, rfl, hb1_16, rfl⟩
          cases r1_16
          · skip
            replace hb1_16 := mt hb1_16.2 (by decide)
            refine xl_pure rfl rfl rfl (pv_pick_t (v := .bool _) rfl rfl rfl) ?_
            refine xl_pure rfl rfl rfl (pv_move (v := .bool _) rfl rfl) ?_
            refine xl_skip rfl rfl rfl ?_
            refine xl_skip rfl rfl rfl ?_
            refine xl_skip rfl rfl rfl ?_
            refine xl_pure rfl rfl rfl (pv_pick_f (v := .bool _) rfl rfl rfl) ?_
            refine xl_pure rfl rfl rfl (pv_assign (v := .bool _) rfl rfl) ?_
            refine xl_nil ?_
            refine xthen_normal ?_
            exact ⟨_, ⟨rfl, rfl, trivial⟩, (by first | exact ⟨fun _ => by ((try unfold Stands at *); (try unfold Six at *); (try unfold Fiv at *); (try unfold Nums at *); (try unfold Cops at *); omega), fun _ => rfl⟩ | exact ⟨fun h => absurd h (by decide), fun h => by ((try unfold Stands at *); (try unfold Six at *); (try unfold Fiv at *); (try unfold Nums at *); (try unfold Cops at *); omega)⟩), rfl⟩
          · skip
            replace hb1_16 := hb1_16.1 rfl
            refine xl_pure rfl rfl rfl (pv_pick_t (v := .bool _) rfl rfl rfl) ?_
            refine xl_pure rfl rfl rfl (pv_move (v := .bool _) rfl rfl) ?_
            refine xl_pure rfl rfl rfl (pv_fieldAddr rfl rfl) ?_
            refine xl_light rfl rfl rfl (lv_load (v := .int _ _) rfl rfl (by first | exact ld_blk hr rfl)) ?_
            refine xl_heavy rfl rfl rfl (hv_call (g := 31) rfl rfl (c31 _ _ _) rfl) ?_
            rintro v1_21 H1_21 ⟨r1_21, rfl, hb1_21, rfl⟩
            cases r1_21
            · skip
              replace hb1_21 := mt hb1_21.2 (by decide)
              refine xl_pure rfl rfl rfl (pv_pick_t (v := .bool _) rfl rfl rfl) ?_
              refine xl_pure rfl rfl rfl (pv_assign (v := .bool _) rfl rfl) ?_
              refine xl_nil ?_
              refine xthen_normal ?_
              exact ⟨_, ⟨rfl, rfl, trivial⟩, (by first | exact ⟨fun _ => by ((try unfold Stands at *); (try unfold Six at *); (try unfold Fiv at *); (try unfold Nums at *); (try unfold Cops at *); omega), fun _ => rfl⟩ | exact ⟨fun h => absurd h (by decide), fun h => by ((try unfold Stands at *); (try unfold Six at *); (try unfold Fiv at *); (try unfold Nums at *); (try unfold Cops at *); omega)⟩), rfl⟩
            · skip
              replace hb1_21 := hb1_21.1 rfl
              refine xl_pure rfl rfl rfl (pv_pick_t (v := .bool _) rfl rfl rfl) ?_
              refine xl_pure rfl rfl rfl (pv_assign (v := .bool _) rfl rfl) ?_
              refine xl_nil ?_
              refine xthen_normal ?_
              exact ⟨_, ⟨rfl, rfl, trivial⟩, (by first | exact ⟨fun _ => by ((try unfold Stands at *); (try unfold Six at *); (try unfold Fiv at *); (try unfold Nums at *); (try unfold Cops at *); omega), fun _ => rfl⟩ | exact ⟨fun h => absurd h (by decide), fun h => by ((try unfold Stands at *); (try unfold Six at *); (try unfold Fiv at *); (try unfold Nums at *); (try unfold Cops at *); omega)⟩), rfl⟩
  · intro σ
    rintro fv Hm ⟨hfv, rfl⟩
    show XC _ _ _ (upds σ [(1, .pointer (some ⟨b0_0, 0, none⟩)), (3, .bool fv)]) _
    refine xc_cut (τ := Bool) (fun t => [(1, .pointer (some ⟨b0_0, 0, none⟩)), (3, .bool t)]) (fun t H' => (t = true ↔ Six j ∧ Nums j) ∧ H0_0 = H') ?_ ?_
    · skip
      refine xc_region ?_
      refine xl_pure rfl rfl rfl (pv_move (v := .bool _) rfl rfl) ?_
      cases fv
      · skip
        replace hfv := mt hfv.2 (by decide)
        refine xl_pure rfl rfl rfl (pv_move (v := .bool _) rfl rfl) ?_
        refine xl_skip rfl rfl rfl ?_
        refine xl_skip rfl rfl rfl ?_
        refine xl_skip rfl rfl rfl ?_
        refine xl_pure rfl rfl rfl (pv_pick_f (v := .bool _) rfl rfl rfl) ?_
        refine xl_pure rfl rfl rfl (pv_move (v := .bool _) rfl rfl) ?_
        refine xl_skip rfl rfl rfl ?_
        refine xl_skip rfl rfl rfl ?_
        refine xl_skip rfl rfl rfl ?_
        refine xl_pure rfl rfl rfl (pv_pick_f (v := .bool _) rfl rfl rfl) ?_
        refine xl_pure rfl rfl rfl (pv_move (v := .bool _) rfl rfl) ?_
        refine xl_skip rfl rfl rfl ?_
        refine xl_skip rfl rfl rfl ?_
        refine xl_skip rfl rfl rfl ?_
        refine xl_pure rfl rfl rfl (pv_pick_f (v := .bool _) rfl rfl rfl) ?_
        refine xl_pure rfl rfl rfl (pv_move (v := .bool _) rfl rfl) ?_
        refine xl_skip rfl rfl rfl ?_
        refine xl_skip rfl rfl rfl ?_
        refine xl_skip rfl rfl rfl ?_
        refine xl_pure rfl rfl rfl (pv_pick_f (v := .bool _) rfl rfl rfl) ?_
        refine xl_pure rfl rfl rfl (pv_move (v := .bool _) rfl rfl) ?_
        refine xl_skip rfl rfl rfl ?_
        refine xl_skip rfl rfl rfl ?_
        refine xl_skip rfl rfl rfl ?_
        refine xl_pure rfl rfl rfl (pv_pick_f (v := .bool _) rfl rfl rfl) ?_
        refine xl_pure rfl rfl rfl (pv_assign (v := .bool _) rfl rfl) ?_
        refine xl_nil ?_
        refine xthen_normal ?_
        exact ⟨_, ⟨rfl, rfl, trivial⟩, (by first | exact ⟨fun _ => by ((try unfold Stands at *); (try unfold Six at *); (try unfold Fiv at *); (try unfold Nums at *); (try unfold Cops at *); omega), fun _ => rfl⟩ | exact ⟨fun h => absurd h (by decide), fun h => by ((try unfold Stands at *); (try unfold Six at *); (try unfold Fiv at *); (try unfold Nums at *); (try unfold Cops at *); omega)⟩), rfl⟩
      · skip
        replace hfv := hfv.1 rfl
        refine xl_pure rfl rfl rfl (pv_move (v := .bool _) rfl rfl) ?_
        refine xl_pure rfl rfl rfl (pv_fieldAddr rfl rfl) ?_
        refine xl_light rfl rfl rfl (lv_load (v := .int _ _) rfl rfl (by first | exact ld_blk hr rfl)) ?_
        refine xl_heavy rfl rfl rfl (hv_call (g := 31) rfl rfl (c31 _ _ _) rfl) ?_
        rintro v2_4 H2_4 ⟨r2_4, rfl, hb2_4, rfl⟩
        cases r2_4
        · skip
          replace hb2_4 := mt hb2_4.2 (by decide)
          refine xl_pure rfl rfl rfl (pv_pick_t (v := .bool _) rfl rfl rfl) ?_
          refine xl_pure rfl rfl rfl (pv_move (v := .bool _) rfl rfl) ?_
          refine xl_skip rfl rfl rfl ?_
          refine xl_skip rfl rfl rfl ?_
          refine xl_skip rfl rfl rfl ?_
          refine xl_pure rfl rfl rfl (pv_pick_f (v := .bool _) rfl rfl rfl) ?_
          refine xl_pure rfl rfl rfl (pv_move (v := .bool _) rfl rfl) ?_
          refine xl_skip rfl rfl rfl ?_
          refine xl_skip rfl rfl rfl ?_
          refine xl_skip rfl rfl rfl ?_
          refine xl_pure rfl rfl rfl (pv_pick_f (v := .bool _) rfl rfl rfl) ?_
          refine xl_pure rfl rfl rfl (pv_move (v := .bool _) rfl rfl) ?_
          refine xl_skip rfl rfl rfl ?_
          refine xl_skip rfl rfl rfl ?_
          refine xl_skip rfl rfl rfl ?_
          refine xl_pure rfl rfl rfl (pv_pick_f (v := .bool _) rfl rfl rfl) ?_
          refine xl_pure rfl rfl rfl (pv_move (v := .bool _) rfl rfl) ?_
          refine xl_skip rfl rfl rfl ?_
          refine xl_skip rfl rfl rfl ?_
          refine xl_skip rfl rfl rfl ?_
          refine xl_pure rfl rfl rfl (pv_pick_f (v := .bool _) rfl rfl rfl) ?_
          refine xl_pure rfl rfl rfl (pv_assign (v := .bool _) rfl rfl) ?_
          refine xl_nil ?_
          refine xthen_normal ?_
          exact ⟨_, ⟨rfl, rfl, trivial⟩, (by first | exact ⟨fun _ => by ((try unfold Stands at *); (try unfold Six at *); (try unfold Fiv at *); (try unfold Nums at *); (try unfold Cops at *); omega), fun _ => rfl⟩ | exact ⟨fun h => absurd h (by decide), fun h => by ((try unfold Stands at *); (try unfold Six at *); (try unfold Fiv at *); (try unfold Nums at *); (try unfold Cops at *); omega)⟩), rfl⟩
        · skip
          replace hb2_4 := hb2_4.1 rfl
          refine xl_pure rfl rfl rfl (pv_pick_t (v := .bool _) rfl rfl rfl) ?_
          refine xl_pure rfl rfl rfl (pv_move (v := .bool _) rfl rfl) ?_
          refine xl_pure rfl rfl rfl (pv_fieldAddr rfl rfl) ?_
          refine xl_light rfl rfl rfl (lv_load (v := .int _ _) rfl rfl (by first | exact ld_blk hr rfl)) ?_
          refine xl_heavy rfl rfl rfl (hv_call (g := 31) rfl rfl (c31 _ _ _) rfl) ?_
          rintro v2_9 H2_9 ⟨r2_9, rfl, hb2_9, rfl⟩
          cases r2_9
          · skip
            replace hb2_9 := mt hb2_9.2 (by decide)
            refine xl_pure rfl rfl rfl (pv_pick_t (v := .bool _) rfl rfl rfl) ?_
            refine xl_pure rfl rfl rfl (pv_move (v := .bool _) rfl rfl) ?_
            refine xl_skip rfl rfl rfl ?_
            refine xl_skip rfl rfl rfl ?_
            refine xl_skip rfl rfl rfl ?_
            refine xl_pure rfl rfl rfl (pv_pick_f (v := .bool _) rfl rfl rfl) ?_
            refine xl_pure rfl rfl rfl (pv_move (v := .bool _) rfl rfl) ?_
            refine xl_skip rfl rfl rfl ?_
            refine xl_skip rfl rfl rfl ?_
            refine xl_skip rfl rfl rfl ?_
            refine xl_pure rfl rfl rfl (pv_pick_f (v := .bool _) rfl rfl rfl) ?_
            refine xl_pure rfl rfl rfl (pv_move (v := .bool _) rfl rfl) ?_
            refine xl_skip rfl rfl rfl ?_
            refine xl_skip rfl rfl rfl ?_
            refine xl_skip rfl rfl rfl ?_
            refine xl_pure rfl rfl rfl (pv_pick_f (v := .bool _) rfl rfl rfl) ?_
            refine xl_pure rfl rfl rfl (pv_assign (v := .bool _) rfl rfl) ?_
            refine xl_nil ?_
            refine xthen_normal ?_
            exact ⟨_, ⟨rfl, rfl, trivial⟩, (by first | exact ⟨fun _ => by ((try unfold Stands at *); (try unfold Six at *); (try unfold Fiv at *); (try unfold Nums at *); (try unfold Cops at *); omega), fun _ => rfl⟩ | exact ⟨fun h => absurd h (by decide), fun h => by ((try unfold Stands at *); (try unfold Six at *); (try unfold Fiv at *); (try unfold Nums at *); (try unfold Cops at *); omega)⟩), rfl⟩
          · skip
            replace hb2_9 := hb2_9.1 rfl
            refine xl_pure rfl rfl rfl (pv_pick_t (v := .bool _) rfl rfl rfl) ?_
            refine xl_pure rfl rfl rfl (pv_move (v := .bool _) rfl rfl) ?_
            refine xl_pure rfl rfl rfl (pv_fieldAddr rfl rfl) ?_
            refine xl_light rfl rfl rfl (lv_load (v := .int _ _) rfl rfl (by first | exact ld_blk hr rfl)) ?_
            refine xl_heavy rfl rfl rfl (hv_call (g := 31) rfl rfl (c31 _ _ _) rfl) ?_
            rintro v2_14 H2_14 ⟨r2_14, rfl, hb2_14, rfl⟩
            cases r2_14
            · skip
              replace hb2_14 := mt hb2_14.2 (by decide)
              refine xl_pure rfl rfl rfl (pv_pick_t (v := .bool _) rfl rfl rfl) ?_
              refine xl_pure rfl rfl rfl (pv_move (v := .bool _) rfl rfl) ?_
              refine xl_skip rfl rfl rfl ?_
              refine xl_skip rfl rfl rfl ?_
              refine xl_skip rfl rfl rfl ?_
              refine xl_pure rfl rfl rfl (pv_pick_f (v := .bool _) rfl rfl rfl) ?_
              refine xl_pure rfl rfl rfl (pv_move (v := .bool _) rfl rfl) ?_
              refine xl_skip rfl rfl rfl ?_
              refine xl_skip rfl rfl rfl ?_
              refine xl_skip rfl rfl rfl ?_
              refine xl_pure rfl rfl rfl (pv_pick_f (v := .bool _) rfl rfl rfl) ?_
              refine xl_pure rfl rfl rfl (pv_assign (v := .bool _) rfl rfl) ?_
              refine xl_nil ?_
              refine xthen_normal ?_
              exact ⟨_, ⟨rfl, rfl, trivial⟩, (by first | exact ⟨fun _ => by ((try unfold Stands at *); (try unfold Six at *); (try unfold Fiv at *); (try unfold Nums at *); (try unfold Cops at *); omega), fun _ => rfl⟩ | exact ⟨fun h => absurd h (by decide), fun h => by ((try unfold Stands at *); (try unfold Six at *); (try unfold Fiv at *); (try unfold Nums at *); (try unfold Cops at *); omega)⟩), rfl⟩
            · skip
              replace hb2_14 := hb2_14.1 rfl
              refine xl_pure rfl rfl rfl (pv_pick_t (v := .bool _) rfl rfl rfl) ?_
              refine xl_pure rfl rfl rfl (pv_move (v := .bool _) rfl rfl) ?_
              refine xl_pure rfl rfl rfl (pv_fieldAddr rfl rfl) ?_
              refine xl_light rfl rfl rfl (lv_load (v := .int _ _) rfl rfl (by first | exact ld_blk hr rfl)) ?_
              refine xl_heavy rfl rfl rfl (hv_call (g := 31) rfl rfl (c31 _ _ _) rfl) ?_
              rintro v2_19 H2_19 ⟨r2_19, rfl, hb2_19, rfl⟩
              cases r2_19
              · skip
                replace hb2_19 := mt hb2_19.2 (by decide)
                refine xl_pure rfl rfl rfl (pv_pick_t (v := .bool _) rfl rfl rfl) ?_
                refine xl_pure rfl rfl rfl (pv_move (v := .bool _) rfl rfl) ?_
                refine xl_skip rfl rfl rfl ?_
                refine xl_skip rfl rfl rfl ?_
                refine xl_skip rfl rfl rfl ?_
                refine xl_pure rfl rfl rfl (pv_pick_f (v := .bool _) rfl rfl rfl) ?_
                refine xl_pure rfl rfl rfl (pv_assign (v := .bool _) rfl rfl) ?_
                refine xl_nil ?_
                refine xthen_normal ?_
                exact ⟨_, ⟨rfl, rfl, trivial⟩, (by first | exact ⟨fun _ => by ((try unfold Stands at *); (try unfold Six at *); (try unfold Fiv at *); (try unfold Nums at *); (try unfold Cops at *); omega), fun _ => rfl⟩ | exact ⟨fun h => absurd h (by decide), fun h => by ((try unfold Stands at *); (try unfold Six at *); (try unfold Fiv at *); (try unfold Nums at *); (try unfold Cops at *); omega)⟩), rfl⟩
              · skip
                replace hb2_19 := hb2_19.1 rfl
                refine xl_pure rfl rfl rfl (pv_pick_t (v := .bool _) rfl rfl rfl) ?_
                refine xl_pure rfl rfl rfl (pv_move (v := .bool _) rfl rfl) ?_
                refine xl_pure rfl rfl rfl (pv_fieldAddr rfl rfl) ?_
                refine xl_light rfl rfl rfl (lv_load (v := .int _ _) rfl rfl (by first | exact ld_blk hr rfl)) ?_
                refine xl_heavy rfl rfl rfl (hv_call (g := 31) rfl rfl (c31 _ _ _) rfl) ?_
                rintro v2_24 H2_24 ⟨r2_24, rfl, hb2_24, rfl⟩
                cases r2_24
                · skip
                  replace hb2_24 := mt hb2_24.2 (by decide)
                  refine xl_pure rfl rfl rfl (pv_pick_t (v := .bool _) rfl rfl rfl) ?_
                  refine xl_pure rfl rfl rfl (pv_assign (v := .bool _) rfl rfl) ?_
                  refine xl_nil ?_
                  refine xthen_normal ?_
                  exact ⟨_, ⟨rfl, rfl, trivial⟩, (by first | exact ⟨fun _ => by ((try unfold Stands at *); (try unfold Six at *); (try unfold Fiv at *); (try unfold Nums at *); (try unfold Cops at *); omega), fun _ => rfl⟩ | exact ⟨fun h => absurd h (by decide), fun h => by ((try unfold Stands at *); (try unfold Six at *); (try unfold Fiv at *); (try unfold Nums at *); (try unfold Cops at *); omega)⟩), rfl⟩
                · skip
                  replace hb2_24 := hb2_24.1 rfl
                  refine xl_pure rfl rfl rfl (pv_pick_t (v := .bool _) rfl rfl rfl) ?_
                  refine xl_pure rfl rfl rfl (pv_assign (v := .bool _) rfl rfl) ?_
                  refine xl_nil ?_
                  refine xthen_normal ?_
                  exact ⟨_, ⟨rfl, rfl, trivial⟩, (by first | exact ⟨fun _ => by ((try unfold Stands at *); (try unfold Six at *); (try unfold Fiv at *); (try unfold Nums at *); (try unfold Cops at *); omega), fun _ => rfl⟩ | exact ⟨fun h => absurd h (by decide), fun h => by ((try unfold Stands at *); (try unfold Six at *); (try unfold Fiv at *); (try unfold Nums at *); (try unfold Cops at *); omega)⟩), rfl⟩
    · intro σ
      rintro nm Hm ⟨hnm, rfl⟩
      show XC _ _ _ (upds σ [(1, .pointer (some ⟨b0_0, 0, none⟩)), (3, .bool nm)]) _
      refine xc_cut (τ := Bool) (fun t => [(1, .pointer (some ⟨b0_0, 0, none⟩)), (3, .bool t)]) (fun t H' => (t = true ↔ Six j ∧ Nums j ∧ Cops j) ∧ H0_0 = H') ?_ ?_
      · skip
        refine xc_seq ?_
        refine xc_region ?_
        refine xl_pure rfl rfl rfl (pv_fieldAddr rfl rfl) ?_
        refine xl_light rfl rfl rfl (lv_load (v := .int _ _) rfl rfl (by first | exact ld_blk hr rfl)) ?_
        refine xl_dec rfl rfl rfl (pv_eql rfl rfl rfl) (fun h3_2 => ?_) (fun h3_2 => ?_)
        · skip
          refine xl_nil ?_
          refine xthen_normal ?_
          refine xc_cond_t rfl ?_
          refine xc_region ?_
          refine xl_pure rfl rfl rfl (pv_move (v := .bool _) rfl rfl) ?_
          cases nm
          · skip
            replace hnm := mt hnm.2 (by decide)
            refine xl_pure rfl rfl rfl (pv_move (v := .bool _) rfl rfl) ?_
            refine xl_skip rfl rfl rfl ?_
            refine xl_skip rfl rfl rfl ?_
            refine xl_skip rfl rfl rfl ?_
            refine xl_pure rfl rfl rfl (pv_pick_f (v := .bool _) rfl rfl rfl) ?_
            refine xl_pure rfl rfl rfl (pv_assign (v := .bool _) rfl rfl) ?_
            refine xl_nil ?_
            refine xthen_normal ?_
            exact ⟨_, ⟨rfl, rfl, trivial⟩, (by first | exact ⟨fun _ => by ((try unfold Stands at *); (try unfold Six at *); (try unfold Fiv at *); (try unfold Nums at *); (try unfold Cops at *); omega), fun _ => rfl⟩ | exact ⟨fun h => absurd h (by decide), fun h => by ((try unfold Stands at *); (try unfold Six at *); (try unfold Fiv at *); (try unfold Nums at *); (try unfold Cops at *); omega)⟩), rfl⟩
          · skip
            replace hnm := hnm.1 rfl
            refine xl_pure rfl rfl rfl (pv_move (v := .bool _) rfl rfl) ?_
            refine xl_pure rfl rfl rfl (pv_fieldAddr rfl rfl) ?_
            refine xl_light rfl rfl rfl (lv_load (v := .int _ _) rfl rfl (by first | exact ld_blk hr rfl)) ?_
            refine xl_heavy rfl rfl rfl (hv_call (g := 31) rfl rfl (c31 _ _ _) rfl) ?_
            rintro v4_4 H4_4 ⟨r4_4, rfl, hb4_4, rfl⟩
            cases r4_4
            · skip
              replace hb4_4 := mt hb4_4.2 (by decide)
              refine xl_pure rfl rfl rfl (pv_pick_t (v := .bool _) rfl rfl rfl) ?_
              refine xl_pure rfl rfl rfl (pv_assign (v := .bool _) rfl rfl) ?_
              refine xl_nil ?_
              refine xthen_normal ?_
              exact ⟨_, ⟨rfl, rfl, trivial⟩, (by first | exact ⟨fun _ => by ((try unfold Stands at *); (try unfold Six at *); (try unfold Fiv at *); (try unfold Nums at *); (try unfold Cops at *); omega), fun _ => rfl⟩ | exact ⟨fun h => absurd h (by decide), fun h => by ((try unfold Stands at *); (try unfold Six at *); (try unfold Fiv at *); (try unfold Nums at *); (try unfold Cops at *); omega)⟩), rfl⟩
            · skip
              replace hb4_4 := hb4_4.1 rfl
              refine xl_pure rfl rfl rfl (pv_pick_t (v := .bool _) rfl rfl rfl) ?_
              refine xl_pure rfl rfl rfl (pv_assign (v := .bool _) rfl rfl) ?_
              refine xl_nil ?_
              refine xthen_normal ?_
              exact ⟨_, ⟨rfl, rfl, trivial⟩, (by first | exact ⟨fun _ => by ((try unfold Stands at *); (try unfold Six at *); (try unfold Fiv at *); (try unfold Nums at *); (try unfold Cops at *); omega), fun _ => rfl⟩ | exact ⟨fun h => absurd h (by decide), fun h => by ((try unfold Stands at *); (try unfold Six at *); (try unfold Fiv at *); (try unfold Nums at *); (try unfold Cops at *); omega)⟩), rfl⟩
        · skip
          refine xl_nil ?_
          refine xthen_normal ?_
          refine xc_cond_f rfl ?_
          refine xc_region ?_
          refine xl_pure rfl rfl rfl (pv_move (v := .bool _) rfl rfl) ?_
          cases nm
          · skip
            replace hnm := mt hnm.2 (by decide)
            refine xl_pure rfl rfl rfl (pv_move (v := .bool _) rfl rfl) ?_
            refine xl_skip rfl rfl rfl ?_
            refine xl_skip rfl rfl rfl ?_
            refine xl_skip rfl rfl rfl ?_
            refine xl_pure rfl rfl rfl (pv_pick_f (v := .bool _) rfl rfl rfl) ?_
            refine xl_pure rfl rfl rfl (pv_assign (v := .bool _) rfl rfl) ?_
            refine xl_nil ?_
            refine xthen_normal ?_
            exact ⟨_, ⟨rfl, rfl, trivial⟩, (by first | exact ⟨fun _ => by ((try unfold Stands at *); (try unfold Six at *); (try unfold Fiv at *); (try unfold Nums at *); (try unfold Cops at *); omega), fun _ => rfl⟩ | exact ⟨fun h => absurd h (by decide), fun h => by ((try unfold Stands at *); (try unfold Six at *); (try unfold Fiv at *); (try unfold Nums at *); (try unfold Cops at *); omega)⟩), rfl⟩
          · skip
            replace hnm := hnm.1 rfl
            refine xl_pure rfl rfl rfl (pv_move (v := .bool _) rfl rfl) ?_
            refine xl_pure rfl rfl rfl (pv_fieldAddr rfl rfl) ?_
            refine xl_light rfl rfl rfl (lv_load (v := .int _ _) rfl rfl (by first | exact ld_blk hr rfl)) ?_
            refine xl_dec rfl rfl rfl (pv_eql rfl rfl rfl) (fun h5_4 => ?_) (fun h5_4 => ?_)
            · skip
              refine xl_pure rfl rfl rfl (pv_pick_t (v := .bool _) rfl rfl rfl) ?_
              refine xl_pure rfl rfl rfl (pv_assign (v := .bool _) rfl rfl) ?_
              refine xl_nil ?_
              refine xthen_normal ?_
              exact ⟨_, ⟨rfl, rfl, trivial⟩, (by first | exact ⟨fun _ => by ((try unfold Stands at *); (try unfold Six at *); (try unfold Fiv at *); (try unfold Nums at *); (try unfold Cops at *); omega), fun _ => rfl⟩ | exact ⟨fun h => absurd h (by decide), fun h => by ((try unfold Stands at *); (try unfold Six at *); (try unfold Fiv at *); (try unfold Nums at *); (try unfold Cops at *); omega)⟩), rfl⟩
            · skip
              refine xl_pure rfl rfl rfl (pv_pick_t (v := .bool _) rfl rfl rfl) ?_
              refine xl_pure rfl rfl rfl (pv_assign (v := .bool _) rfl rfl) ?_
              refine xl_nil ?_
              refine xthen_normal ?_
              exact ⟨_, ⟨rfl, rfl, trivial⟩, (by first | exact ⟨fun _ => by ((try unfold Stands at *); (try unfold Six at *); (try unfold Fiv at *); (try unfold Nums at *); (try unfold Cops at *); omega), fun _ => rfl⟩ | exact ⟨fun h => absurd h (by decide), fun h => by ((try unfold Stands at *); (try unfold Six at *); (try unfold Fiv at *); (try unfold Nums at *); (try unfold Cops at *); omega)⟩), rfl⟩
      · intro σ
        rintro cq Hm ⟨hcq, rfl⟩
        show XC _ _ _ (upds σ [(1, .pointer (some ⟨b0_0, 0, none⟩)), (3, .bool cq)]) _
        refine xc_cut (τ := Bool) (fun t => [(1, .pointer (some ⟨b0_0, 0, none⟩)), (3, .bool t)]) (fun t H' => (t = true ↔ Six j ∧ Nums j ∧ Cops j ∧ Nds j) ∧ Blk H' b0_0 (jcs j a c) 26 ∧ Ext H H') ?_ ?_
        · skip
          refine xc_region ?_
          refine xl_pure rfl rfl rfl (pv_move (v := .bool _) rfl rfl) ?_
          cases cq
          · skip
            replace hcq := mt hcq.2 (by decide)
            refine xl_pure rfl rfl rfl (pv_move (v := .bool _) rfl rfl) ?_
            refine xl_skip rfl rfl rfl ?_
            refine xl_skip rfl rfl rfl ?_
            refine xl_skip rfl rfl rfl ?_
            refine xl_skip rfl rfl rfl ?_
            refine xl_pure rfl rfl rfl (pv_pick_f (v := .bool _) rfl rfl rfl) ?_
            refine xl_pure rfl rfl rfl (pv_move (v := .bool _) rfl rfl) ?_
            refine xl_skip rfl rfl rfl ?_
            refine xl_skip rfl rfl rfl ?_
            refine xl_skip rfl rfl rfl ?_
            refine xl_skip rfl rfl rfl ?_
            refine xl_skip rfl rfl rfl ?_
            refine xl_skip rfl rfl rfl ?_
            refine xl_skip rfl rfl rfl ?_
            refine xl_skip rfl rfl rfl ?_
            refine xl_skip rfl rfl rfl ?_
            refine xl_pure rfl rfl rfl (pv_pick_f (v := .bool _) rfl rfl rfl) ?_
            refine xl_pure rfl rfl rfl (pv_assign (v := .bool _) rfl rfl) ?_
            refine xl_nil ?_
            refine xthen_normal ?_
            refine ⟨_, ⟨rfl, rfl, trivial⟩, ?_, hr, hX⟩
            first
              | exact ⟨fun _ => ⟨hcq.1, hcq.2.1, hcq.2.2, hg6_4, by omega⟩, fun _ => rfl⟩
              | exact ⟨fun h => absurd h (by decide), fun h => absurd ⟨h.1, h.2.1, h.2.2.1⟩ hcq⟩
              | exact ⟨fun h => absurd h (by decide), fun h => absurd h.2.2.2.1 hg6_4⟩
              | exact ⟨fun h => absurd h (by decide), fun h => by have h := h.2.2.2.2; omega⟩
          · skip
            replace hcq := hcq.1 rfl
            refine xl_pure rfl rfl rfl (pv_move (v := .bool _) rfl rfl) ?_
            refine xl_pure rfl rfl rfl (pv_fieldAddr rfl rfl) ?_
            refine xl_light rfl rfl rfl (lv_load (v := .slice _ _ _) rfl rfl (by first | exact ld_blk hr rfl)) ?_
            refine xl_heavy rfl rfl rfl (hv_call (g := 32) rfl rfl (c32 j.needs a c 32 (hs.ext hX) (by omega)) rfl) ?_
            rintro v6_4 H6_4 ⟨e6_4, rfl, hg6_4, hE6_4⟩
            have hX := hX.trans hE6_4
            have hr := hr.ext hE6_4
            rcases hg6_4 with ⟨hg6_4, rfl⟩ | ⟨hg6_4, rfl⟩
            · skip
              refine xl_dec rfl rfl rfl (pv_eql rfl rfl rfl) (fun h6_5 => ?_) (fun h6_5 => ?_)
              · skip
                refine xl_pure rfl rfl rfl (pv_pick_t (v := .bool _) rfl rfl rfl) ?_
                refine xl_pure rfl rfl rfl (pv_move (v := .bool _) rfl rfl) ?_
                refine xl_pure rfl rfl rfl (pv_fieldAddr rfl rfl) ?_
                refine xl_light rfl rfl rfl (lv_load (v := .int _ _) rfl rfl (by first | exact ld_blk hr rfl)) ?_
                refine xl_dec rfl rfl rfl (pv_eql rfl rfl rfl) (fun h6_10 => ?_) (fun h6_10 => ?_)
                · skip
                  refine xl_pure rfl rfl rfl (pv_move (v := .bool _) rfl rfl) ?_
                  refine xl_skip rfl rfl rfl ?_
                  refine xl_skip rfl rfl rfl ?_
                  refine xl_skip rfl rfl rfl ?_
                  refine xl_skip rfl rfl rfl ?_
                  refine xl_pure rfl rfl rfl (pv_pick_t (v := .bool _) rfl rfl rfl) ?_
                  refine xl_pure rfl rfl rfl (pv_pick_t (v := .bool _) rfl rfl rfl) ?_
                  refine xl_pure rfl rfl rfl (pv_assign (v := .bool _) rfl rfl) ?_
                  refine xl_nil ?_
                  refine xthen_normal ?_
                  refine ⟨_, ⟨rfl, rfl, trivial⟩, ?_, hr, hX⟩
                  first
                    | exact ⟨fun _ => ⟨hcq.1, hcq.2.1, hcq.2.2, hg6_4, by omega⟩, fun _ => rfl⟩
                    | exact ⟨fun h => absurd h (by decide), fun h => absurd ⟨h.1, h.2.1, h.2.2.1⟩ hcq⟩
                    | exact ⟨fun h => absurd h (by decide), fun h => absurd h.2.2.2.1 hg6_4⟩
                    | exact ⟨fun h => absurd h (by decide), fun h => by have h := h.2.2.2.2; omega⟩
                · skip
                  refine xl_pure rfl rfl rfl (pv_move (v := .bool _) rfl rfl) ?_
                  refine xl_pure rfl rfl rfl (pv_fieldAddr rfl rfl) ?_
                  refine xl_light rfl rfl rfl (lv_load (v := .slice _ _ _) rfl rfl (by first | exact ld_blk hr rfl)) ?_
                  refine xl_pure rfl rfl rfl (pv_len_l rfl rfl) ?_
                  refine xl_dec rfl rfl rfl (pv_eql rfl rfl rfl) (fun h6_15 => ?_) (fun h6_15 => ?_)
                  · skip
                    refine xl_pure rfl rfl rfl (pv_pick_f (v := .bool _) rfl rfl rfl) ?_
                    refine xl_pure rfl rfl rfl (pv_pick_t (v := .bool _) rfl rfl rfl) ?_
                    refine xl_pure rfl rfl rfl (pv_assign (v := .bool _) rfl rfl) ?_
                    refine xl_nil ?_
                    refine xthen_normal ?_
                    refine ⟨_, ⟨rfl, rfl, trivial⟩, ?_, hr, hX⟩
                    first
                      | exact ⟨fun _ => ⟨hcq.1, hcq.2.1, hcq.2.2, hg6_4, by omega⟩, fun _ => rfl⟩
                      | exact ⟨fun h => absurd h (by decide), fun h => absurd ⟨h.1, h.2.1, h.2.2.1⟩ hcq⟩
                      | exact ⟨fun h => absurd h (by decide), fun h => absurd h.2.2.2.1 hg6_4⟩
                      | exact ⟨fun h => absurd h (by decide), fun h => by have h := h.2.2.2.2; omega⟩
                  · skip
                    refine xl_pure rfl rfl rfl (pv_pick_f (v := .bool _) rfl rfl rfl) ?_
                    refine xl_pure rfl rfl rfl (pv_pick_t (v := .bool _) rfl rfl rfl) ?_
                    refine xl_pure rfl rfl rfl (pv_assign (v := .bool _) rfl rfl) ?_
                    refine xl_nil ?_
                    refine xthen_normal ?_
                    refine ⟨_, ⟨rfl, rfl, trivial⟩, ?_, hr, hX⟩
                    first
                      | exact ⟨fun _ => ⟨hcq.1, hcq.2.1, hcq.2.2, hg6_4, by omega⟩, fun _ => rfl⟩
                      | exact ⟨fun h => absurd h (by decide), fun h => absurd ⟨h.1, h.2.1, h.2.2.1⟩ hcq⟩
                      | exact ⟨fun h => absurd h (by decide), fun h => absurd h.2.2.2.1 hg6_4⟩
                      | exact ⟨fun h => absurd h (by decide), fun h => by have h := h.2.2.2.2; omega⟩
              · exact absurd (by decide) h6_5
            · skip
              refine xl_dec rfl rfl rfl (pv_eql rfl rfl rfl) (fun h6_5 => ?_) (fun h6_5 => ?_)
              · exact absurd h6_5 (by decide)
              · skip
                refine xl_pure rfl rfl rfl (pv_pick_t (v := .bool _) rfl rfl rfl) ?_
                refine xl_pure rfl rfl rfl (pv_move (v := .bool _) rfl rfl) ?_
                refine xl_skip rfl rfl rfl ?_
                refine xl_skip rfl rfl rfl ?_
                refine xl_skip rfl rfl rfl ?_
                refine xl_skip rfl rfl rfl ?_
                refine xl_skip rfl rfl rfl ?_
                refine xl_skip rfl rfl rfl ?_
                refine xl_skip rfl rfl rfl ?_
                refine xl_skip rfl rfl rfl ?_
                refine xl_skip rfl rfl rfl ?_
                refine xl_pure rfl rfl rfl (pv_pick_f (v := .bool _) rfl rfl rfl) ?_
                refine xl_pure rfl rfl rfl (pv_assign (v := .bool _) rfl rfl) ?_
                refine xl_nil ?_
                refine xthen_normal ?_
                refine ⟨_, ⟨rfl, rfl, trivial⟩, ?_, hr, hX⟩
                first
                  | exact ⟨fun _ => ⟨hcq.1, hcq.2.1, hcq.2.2, hg6_4, by omega⟩, fun _ => rfl⟩
                  | exact ⟨fun h => absurd h (by decide), fun h => absurd ⟨h.1, h.2.1, h.2.2.1⟩ hcq⟩
                  | exact ⟨fun h => absurd h (by decide), fun h => absurd h.2.2.2.1 hg6_4⟩
                  | exact ⟨fun h => absurd h (by decide), fun h => by have h := h.2.2.2.2; omega⟩
        · intro σ
          clear hr hX
          rintro nd Hm ⟨hnd, hr, hX⟩
          show XC _ _ _ (upds σ [(1, .pointer (some ⟨b0_0, 0, none⟩)), (3, .bool nd)]) _
          refine xc_seq ?_
          refine xc_seq ?_
          refine xc_region ?_
          refine xl_pure rfl rfl rfl (pv_move (v := .bool _) rfl rfl) ?_
          cases nd
          · skip
            replace hnd := mt hnd.2 (by decide)
            refine xl_pure rfl rfl rfl (pv_not rfl rfl) ?_
            refine xl_pure rfl rfl rfl (pv_move (v := .bool _) rfl rfl) ?_
            refine xl_skip rfl rfl rfl ?_
            refine xl_skip rfl rfl rfl ?_
            refine xl_skip rfl rfl rfl ?_
            refine xl_pure rfl rfl rfl (pv_pick_t (v := .bool _) rfl rfl rfl) ?_
            refine xl_nil ?_
            refine xthen_normal ?_
            refine xc_cond_t rfl ?_
            refine xc_seq ?_
            refine xc_region ?_
            refine xl_pure rfl rfl rfl (pv_assign (v := .int _ _) rfl rfl) ?_
            refine xl_nil ?_
            refine xthen_normal ?_
            refine xc_ret ?_
            refine xthen_ret ?_
            refine fin_ret (res1 (v := .int _ _) rfl rfl) ?_
            refine ⟨1, rfl, .inr ⟨fun h => ?_, rfl⟩, by first | exact hX | exact hX.trans hE7_4⟩
            first | exact hnd ⟨h.1, h.2.1, h.2.2.1, h.2.2.2.1⟩ | exact hb7_4 h.2.2.2.2
          · skip
            replace hnd := hnd.1 rfl
            refine xl_pure rfl rfl rfl (pv_not rfl rfl) ?_
            refine xl_pure rfl rfl rfl (pv_move (v := .bool _) rfl rfl) ?_
            refine xl_light rfl rfl rfl (lv_load (v := .agg _) rfl rfl (by first | exact ld_blk_a hr rfl rfl)) ?_
            refine xl_heavy rfl rfl rfl (hv_call (g := 33) rfl rfl (c33 j a c (by ((try unfold Stands at *); (try unfold Six at *); (try unfold Fiv at *); (try unfold Nums at *); (try unfold Cops at *); omega))) rfl) ?_
            rintro v7_4 H7_4 ⟨r7_4, rfl, hb7_4, hE7_4⟩
            cases r7_4
            · skip
              replace hb7_4 := mt hb7_4.2 (by decide)
              refine xl_pure rfl rfl rfl (pv_not rfl rfl) ?_
              refine xl_pure rfl rfl rfl (pv_pick_f (v := .bool _) rfl rfl rfl) ?_
              refine xl_nil ?_
              refine xthen_normal ?_
              refine xc_cond_t rfl ?_
              refine xc_seq ?_
              refine xc_region ?_
              refine xl_pure rfl rfl rfl (pv_assign (v := .int _ _) rfl rfl) ?_
              refine xl_nil ?_
              refine xthen_normal ?_
              refine xc_ret ?_
              refine xthen_ret ?_
              refine fin_ret (res1 (v := .int _ _) rfl rfl) ?_
              refine ⟨1, rfl, .inr ⟨fun h => ?_, rfl⟩, by first | exact hX | exact hX.trans hE7_4⟩
              first | exact hnd ⟨h.1, h.2.1, h.2.2.1, h.2.2.2.1⟩ | exact hb7_4 h.2.2.2.2
            · skip
              replace hb7_4 := hb7_4.1 rfl
              refine xl_pure rfl rfl rfl (pv_not rfl rfl) ?_
              refine xl_pure rfl rfl rfl (pv_pick_f (v := .bool _) rfl rfl rfl) ?_
              refine xl_nil ?_
              refine xthen_normal ?_
              refine xc_cond_f rfl ?_
              refine xc_skip ?_
              refine xthen_normal ?_
              refine xc_seq ?_
              refine xc_region ?_
              refine xl_pure rfl rfl rfl (pv_assign (v := .int _ _) rfl rfl) ?_
              refine xl_nil ?_
              refine xthen_normal ?_
              refine xc_ret ?_
              refine fin_ret (res1 (v := .int _ _) rfl rfl) ?_
              exact ⟨0, rfl, .inl ⟨⟨hnd.1, hnd.2.1, hnd.2.2.1, hnd.2.2.2, hb7_4⟩, rfl⟩, hX.trans hE7_4⟩
end Go.XG
