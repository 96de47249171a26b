/-
  Walks of the seat's functions over the logic XG: each function, what it computes. Printed by a program out of wip/walks.py.
-/
import Derived.Test.YtpppiliakgoihaaI
import Derived.Test.YtpppiliakgoihaaG
import Derived.Test.YtpppiliakgoihaaP
import Derived.Test.YtpppiliakgoihaaWa
import Derived.Test.YtpppiliakgoihaaWb
namespace Go.XG
open Go.Proofs
set_option maxRecDepth 4000
set_option maxHeartbeats 4000000
theorem c39 {O : Outer} {H : Heap} (d : D) (a b : Option Addr) (c e : Nat) :
    FnC Try.prog 39 #[.agg (dcs d a b c e).toArray] O H (fun v H' => ∃ r, v = .bool r ∧ (r = true ↔ Stands d) ∧ Ext H H') := by
  refine fn_enter (A := [.agg (dcs d a b c e).toArray]) Try.func39 rfl rfl ?_
  refine xc_seq ?_
  refine xc_region ?_
  refine xl_heavy rfl rfl rfl (hv_box rfl rfl) ?_
  rintro v0_0 H0_0 ⟨b0_0, rfl, hN0_0⟩
  refine xl_pure rfl rfl rfl (pv_assign (v := .bool _) rfl rfl) ?_
  refine xl_nil ?_
  refine xthen_normal ?_
  refine xc_cut (τ := Bool) (fun t => [(1, .pointer (some ⟨b0_0, 0, none⟩)), (3, .bool t)]) (fun t H' => (t = true ↔ d.kind = 1) ∧ H0_0 = H') ?_ ?_
  · skip
    refine xc_region ?_
    refine xl_pure rfl rfl rfl (pv_fieldAddr rfl rfl) ?_
    refine xl_light rfl rfl rfl (lv_load (v := .int _ _) rfl rfl (by first | exact ld_blk hN0_0.blk rfl)) ?_
    refine xl_dec rfl rfl rfl (pv_eql rfl rfl rfl) (fun h1_2 => ?_) (fun h1_2 => ?_)
    · skip
      refine xl_pure rfl rfl rfl (pv_assign (v := .bool _) rfl rfl) ?_
      refine xl_nil ?_
      refine xthen_normal ?_
      exact ⟨_, ⟨rfl, rfl, trivial⟩, (by first | exact ⟨fun _ => by ((try unfold Stands at *); (try unfold Free at *); (try unfold Taken at *); (try unfold Due at *); (try unfold Who at *); (try unfold What at *); (try unfold Kin at *); omega), fun _ => rfl⟩ | exact ⟨fun h => absurd h (by decide), fun h => by ((try unfold Stands at *); (try unfold Free at *); (try unfold Taken at *); (try unfold Due at *); (try unfold Who at *); (try unfold What at *); (try unfold Kin at *); omega)⟩), rfl⟩
    · skip
      refine xl_pure rfl rfl rfl (pv_assign (v := .bool _) rfl rfl) ?_
      refine xl_nil ?_
      refine xthen_normal ?_
      exact ⟨_, ⟨rfl, rfl, trivial⟩, (by first | exact ⟨fun _ => by ((try unfold Stands at *); (try unfold Free at *); (try unfold Taken at *); (try unfold Due at *); (try unfold Who at *); (try unfold What at *); (try unfold Kin at *); omega), fun _ => rfl⟩ | exact ⟨fun h => absurd h (by decide), fun h => by ((try unfold Stands at *); (try unfold Free at *); (try unfold Taken at *); (try unfold Due at *); (try unfold Who at *); (try unfold What at *); (try unfold Kin at *); omega)⟩), rfl⟩
  · intro σ
    rintro co Hm ⟨hco, rfl⟩
    show XC _ _ _ (upds σ [(1, .pointer (some ⟨b0_0, 0, none⟩)), (3, .bool co)]) _
    refine xc_cut (τ := Bool) (fun t => [(1, .pointer (some ⟨b0_0, 0, none⟩)), (3, .bool co), (4, .bool t)]) (fun t H' => (t = true ↔ Free d) ∧ H0_0 = H') ?_ ?_
    · skip
      refine xc_region ?_
      refine xl_pure rfl rfl rfl (pv_fieldAddr rfl rfl) ?_
      refine xl_light rfl rfl rfl (lv_load (v := .int _ _) rfl rfl (by first | exact ld_blk hN0_0.blk rfl)) ?_
      refine xl_dec rfl rfl rfl (pv_eql rfl rfl rfl) (fun h2_2 => ?_) (fun h2_2 => ?_)
      · skip
        refine xl_pure rfl rfl rfl (pv_move (v := .bool _) rfl rfl) ?_
        refine xl_pure rfl rfl rfl (pv_fieldAddr rfl rfl) ?_
        refine xl_light rfl rfl rfl (lv_load (v := .int _ _) rfl rfl (by first | exact ld_blk hN0_0.blk rfl)) ?_
        refine xl_dec rfl rfl rfl (pv_eql rfl rfl rfl) (fun h2_6 => ?_) (fun h2_6 => ?_)
        · skip
          refine xl_pure rfl rfl rfl (pv_pick_t (v := .bool _) rfl rfl rfl) ?_
          refine xl_pure rfl rfl rfl (pv_assign (v := .bool _) rfl rfl) ?_
          refine xl_nil ?_
          refine xthen_normal ?_
          exact ⟨_, ⟨rfl, rfl, rfl, trivial⟩, (by first | exact ⟨fun _ => by ((try unfold Stands at *); (try unfold Free at *); (try unfold Taken at *); (try unfold Due at *); (try unfold Who at *); (try unfold What at *); (try unfold Kin at *); omega), fun _ => rfl⟩ | exact ⟨fun h => absurd h (by decide), fun h => by ((try unfold Stands at *); (try unfold Free at *); (try unfold Taken at *); (try unfold Due at *); (try unfold Who at *); (try unfold What at *); (try unfold Kin at *); omega)⟩), rfl⟩
        · skip
          refine xl_pure rfl rfl rfl (pv_pick_t (v := .bool _) rfl rfl rfl) ?_
          refine xl_pure rfl rfl rfl (pv_assign (v := .bool _) rfl rfl) ?_
          refine xl_nil ?_
          refine xthen_normal ?_
          exact ⟨_, ⟨rfl, rfl, rfl, trivial⟩, (by first | exact ⟨fun _ => by ((try unfold Stands at *); (try unfold Free at *); (try unfold Taken at *); (try unfold Due at *); (try unfold Who at *); (try unfold What at *); (try unfold Kin at *); omega), fun _ => rfl⟩ | exact ⟨fun h => absurd h (by decide), fun h => by ((try unfold Stands at *); (try unfold Free at *); (try unfold Taken at *); (try unfold Due at *); (try unfold Who at *); (try unfold What at *); (try unfold Kin at *); omega)⟩), rfl⟩
      · skip
        refine xl_pure rfl rfl rfl (pv_move (v := .bool _) rfl rfl) ?_
        refine xl_skip rfl rfl rfl ?_
        refine xl_skip rfl rfl rfl ?_
        refine xl_skip rfl rfl rfl ?_
        refine xl_pure rfl rfl rfl (pv_pick_f (v := .bool _) rfl rfl rfl) ?_
        refine xl_pure rfl rfl rfl (pv_assign (v := .bool _) rfl rfl) ?_
        refine xl_nil ?_
        refine xthen_normal ?_
        exact ⟨_, ⟨rfl, rfl, rfl, trivial⟩, (by first | exact ⟨fun _ => by ((try unfold Stands at *); (try unfold Free at *); (try unfold Taken at *); (try unfold Due at *); (try unfold Who at *); (try unfold What at *); (try unfold Kin at *); omega), fun _ => rfl⟩ | exact ⟨fun h => absurd h (by decide), fun h => by ((try unfold Stands at *); (try unfold Free at *); (try unfold Taken at *); (try unfold Due at *); (try unfold Who at *); (try unfold What at *); (try unfold Kin at *); omega)⟩), rfl⟩
    · intro σ
      rintro fr Hm ⟨hfr, rfl⟩
      show XC _ _ _ (upds σ [(1, .pointer (some ⟨b0_0, 0, none⟩)), (3, .bool co), (4, .bool fr)]) _
      refine xc_cut (τ := Bool) (fun t => [(1, .pointer (some ⟨b0_0, 0, none⟩)), (3, .bool co), (4, .bool fr), (5, .bool t)]) (fun t H' => (t = true ↔ Taken d) ∧ H0_0 = H') ?_ ?_
      · skip
        refine xc_region ?_
        refine xl_pure rfl rfl rfl (pv_fieldAddr rfl rfl) ?_
        refine xl_light rfl rfl rfl (lv_load (v := .int _ _) rfl rfl (by first | exact ld_blk hN0_0.blk rfl)) ?_
        refine xl_heavy rfl rfl rfl (hv_call (g := 30) rfl rfl (c30 _ _ _) rfl) ?_
        rintro v3_2 H3_2 ⟨r3_2, rfl, hb3_2, rfl⟩
        cases r3_2
        · skip
          replace hb3_2 := mt hb3_2.2 (by decide)
          refine xl_pure rfl rfl rfl (pv_move (v := .bool _) rfl rfl) ?_
          refine xl_skip rfl rfl rfl ?_
          refine xl_skip rfl rfl rfl ?_
          refine xl_skip rfl rfl rfl ?_
          refine xl_skip rfl rfl rfl ?_
          refine xl_skip rfl rfl rfl ?_
          refine xl_pure rfl rfl rfl (pv_pick_f (v := .bool _) rfl rfl rfl) ?_
          refine xl_pure rfl rfl rfl (pv_move (v := .bool _) rfl rfl) ?_
          refine xl_skip rfl rfl rfl ?_
          refine xl_skip rfl rfl rfl ?_
          refine xl_skip rfl rfl rfl ?_
          refine xl_pure rfl rfl rfl (pv_pick_f (v := .bool _) rfl rfl rfl) ?_
          refine xl_pure rfl rfl rfl (pv_assign (v := .bool _) rfl rfl) ?_
          refine xl_nil ?_
          refine xthen_normal ?_
          exact ⟨_, ⟨rfl, rfl, rfl, rfl, trivial⟩, (by first | exact ⟨fun _ => by ((try unfold Stands at *); (try unfold Free at *); (try unfold Taken at *); (try unfold Due at *); (try unfold Who at *); (try unfold What at *); (try unfold Kin at *); omega), fun _ => rfl⟩ | exact ⟨fun h => absurd h (by decide), fun h => by ((try unfold Stands at *); (try unfold Free at *); (try unfold Taken at *); (try unfold Due at *); (try unfold Who at *); (try unfold What at *); (try unfold Kin at *); omega)⟩), rfl⟩
        · skip
          replace hb3_2 := hb3_2.1 rfl
          refine xl_pure rfl rfl rfl (pv_move (v := .bool _) rfl rfl) ?_
          refine xl_pure rfl rfl rfl (pv_fieldAddr rfl rfl) ?_
          refine xl_light rfl rfl rfl (lv_load (v := .int _ _) rfl rfl (by first | exact ld_blk hN0_0.blk rfl)) ?_
          refine xl_pure rfl rfl rfl (pv_fieldAddr rfl rfl) ?_
          refine xl_light rfl rfl rfl (lv_load (v := .int _ _) rfl rfl (by first | exact ld_blk hN0_0.blk rfl)) ?_
          refine xl_ndec rfl rfl rfl (pv_neq rfl rfl rfl) (fun h3_8 => ?_) (fun h3_8 => ?_)
          · skip
            refine xl_pure rfl rfl rfl (pv_pick_t (v := .bool _) rfl rfl rfl) ?_
            refine xl_pure rfl rfl rfl (pv_move (v := .bool _) rfl rfl) ?_
            refine xl_skip rfl rfl rfl ?_
            refine xl_skip rfl rfl rfl ?_
            refine xl_skip rfl rfl rfl ?_
            refine xl_pure rfl rfl rfl (pv_pick_f (v := .bool _) rfl rfl rfl) ?_
            refine xl_pure rfl rfl rfl (pv_assign (v := .bool _) rfl rfl) ?_
            refine xl_nil ?_
            refine xthen_normal ?_
            exact ⟨_, ⟨rfl, rfl, rfl, rfl, trivial⟩, (by first | exact ⟨fun _ => by ((try unfold Stands at *); (try unfold Free at *); (try unfold Taken at *); (try unfold Due at *); (try unfold Who at *); (try unfold What at *); (try unfold Kin at *); omega), fun _ => rfl⟩ | exact ⟨fun h => absurd h (by decide), fun h => by ((try unfold Stands at *); (try unfold Free at *); (try unfold Taken at *); (try unfold Due at *); (try unfold Who at *); (try unfold What at *); (try unfold Kin at *); omega)⟩), rfl⟩
          · skip
            refine xl_pure rfl rfl rfl (pv_pick_t (v := .bool _) rfl rfl rfl) ?_
            refine xl_pure rfl rfl rfl (pv_move (v := .bool _) rfl rfl) ?_
            refine xl_pure rfl rfl rfl (pv_fieldAddr rfl rfl) ?_
            refine xl_light rfl rfl rfl (lv_load (v := .int _ _) rfl rfl (by first | exact ld_blk hN0_0.blk rfl)) ?_
            refine xl_heavy rfl rfl rfl (hv_call (g := 30) rfl rfl (c30 _ _ _) rfl) ?_
            rintro v3_13 H3_13 ⟨r3_13, rfl, hb3_13, rfl⟩
            cases r3_13
            · skip
              replace hb3_13 := mt hb3_13.2 (by decide)
              refine xl_pure rfl rfl rfl (pv_pick_t (v := .bool _) rfl rfl rfl) ?_
              refine xl_pure rfl rfl rfl (pv_assign (v := .bool _) rfl rfl) ?_
              refine xl_nil ?_
              refine xthen_normal ?_
              exact ⟨_, ⟨rfl, rfl, rfl, rfl, trivial⟩, (by first | exact ⟨fun _ => by ((try unfold Stands at *); (try unfold Free at *); (try unfold Taken at *); (try unfold Due at *); (try unfold Who at *); (try unfold What at *); (try unfold Kin at *); omega), fun _ => rfl⟩ | exact ⟨fun h => absurd h (by decide), fun h => by ((try unfold Stands at *); (try unfold Free at *); (try unfold Taken at *); (try unfold Due at *); (try unfold Who at *); (try unfold What at *); (try unfold Kin at *); omega)⟩), rfl⟩
            · skip
              replace hb3_13 := hb3_13.1 rfl
              refine xl_pure rfl rfl rfl (pv_pick_t (v := .bool _) rfl rfl rfl) ?_
              refine xl_pure rfl rfl rfl (pv_assign (v := .bool _) rfl rfl) ?_
              refine xl_nil ?_
              refine xthen_normal ?_
              exact ⟨_, ⟨rfl, rfl, rfl, rfl, trivial⟩, (by first | exact ⟨fun _ => by ((try unfold Stands at *); (try unfold Free at *); (try unfold Taken at *); (try unfold Due at *); (try unfold Who at *); (try unfold What at *); (try unfold Kin at *); omega), fun _ => rfl⟩ | exact ⟨fun h => absurd h (by decide), fun h => by ((try unfold Stands at *); (try unfold Free at *); (try unfold Taken at *); (try unfold Due at *); (try unfold Who at *); (try unfold What at *); (try unfold Kin at *); omega)⟩), rfl⟩
      · intro σ
        rintro tk Hm ⟨htk, rfl⟩
        show XC _ _ _ (upds σ [(1, .pointer (some ⟨b0_0, 0, none⟩)), (3, .bool co), (4, .bool fr), (5, .bool tk)]) _
        refine xc_cut (τ := Bool) (fun t => [(1, .pointer (some ⟨b0_0, 0, none⟩)), (3, .bool co), (4, .bool fr), (5, .bool tk), (6, .bool t)]) (fun t H' => (t = true ↔ Due d) ∧ H0_0 = H') ?_ ?_
        · skip
          refine xc_region ?_
          refine xl_pure rfl rfl rfl (pv_fieldAddr rfl rfl) ?_
          refine xl_light rfl rfl rfl (lv_load (v := .int _ _) rfl rfl (by first | exact ld_blk hN0_0.blk rfl)) ?_
          refine xl_heavy rfl rfl rfl (hv_call (g := 30) rfl rfl (c30 _ _ _) rfl) ?_
          rintro v4_2 H4_2 ⟨r4_2, rfl, hb4_2, rfl⟩
          refine xl_pure rfl rfl rfl (pv_assign (v := .bool _) rfl rfl) ?_
          refine xl_nil ?_
          refine xthen_normal ?_
          exact ⟨_, ⟨rfl, rfl, rfl, rfl, rfl, trivial⟩, hb4_2, rfl⟩
        · intro σ
          rintro du Hm ⟨hdu, rfl⟩
          show XC _ _ _ (upds σ [(1, .pointer (some ⟨b0_0, 0, none⟩)), (3, .bool co), (4, .bool fr), (5, .bool tk), (6, .bool du)]) _
          refine xc_cut (τ := Bool) (fun t => [(1, .pointer (some ⟨b0_0, 0, none⟩)), (3, .bool co), (4, .bool fr), (5, .bool tk), (6, .bool du), (7, .bool t)]) (fun t H' => (t = true ↔ d.due = 0) ∧ H0_0 = H') ?_ ?_
          · skip
            refine xc_region ?_
            refine xl_pure rfl rfl rfl (pv_fieldAddr rfl rfl) ?_
            refine xl_light rfl rfl rfl (lv_load (v := .int _ _) rfl rfl (by first | exact ld_blk hN0_0.blk rfl)) ?_
            refine xl_dec rfl rfl rfl (pv_eql rfl rfl rfl) (fun h5_2 => ?_) (fun h5_2 => ?_)
            · skip
              refine xl_pure rfl rfl rfl (pv_assign (v := .bool _) rfl rfl) ?_
              refine xl_nil ?_
              refine xthen_normal ?_
              exact ⟨_, ⟨rfl, rfl, rfl, rfl, rfl, rfl, trivial⟩, (by first | exact ⟨fun _ => by ((try unfold Stands at *); (try unfold Free at *); (try unfold Taken at *); (try unfold Due at *); (try unfold Who at *); (try unfold What at *); (try unfold Kin at *); omega), fun _ => rfl⟩ | exact ⟨fun h => absurd h (by decide), fun h => by ((try unfold Stands at *); (try unfold Free at *); (try unfold Taken at *); (try unfold Due at *); (try unfold Who at *); (try unfold What at *); (try unfold Kin at *); omega)⟩), rfl⟩
            · skip
              refine xl_pure rfl rfl rfl (pv_assign (v := .bool _) rfl rfl) ?_
              refine xl_nil ?_
              refine xthen_normal ?_
              exact ⟨_, ⟨rfl, rfl, rfl, rfl, rfl, rfl, trivial⟩, (by first | exact ⟨fun _ => by ((try unfold Stands at *); (try unfold Free at *); (try unfold Taken at *); (try unfold Due at *); (try unfold Who at *); (try unfold What at *); (try unfold Kin at *); omega), fun _ => rfl⟩ | exact ⟨fun h => absurd h (by decide), fun h => by ((try unfold Stands at *); (try unfold Free at *); (try unfold Taken at *); (try unfold Due at *); (try unfold Who at *); (try unfold What at *); (try unfold Kin at *); omega)⟩), rfl⟩
          · intro σ
            rintro nv Hm ⟨hnv, rfl⟩
            show XC _ _ _ (upds σ [(1, .pointer (some ⟨b0_0, 0, none⟩)), (3, .bool co), (4, .bool fr), (5, .bool tk), (6, .bool du), (7, .bool nv)]) _
            refine xc_seq ?_
            refine xc_seq ?_
            refine xc_region ?_
            refine xl_pure rfl rfl rfl (pv_fieldAddr rfl rfl) ?_
            refine xl_light rfl rfl rfl (lv_load (v := .int _ _) rfl rfl (by first | exact ld_blk hN0_0.blk rfl)) ?_
            refine xl_nil ?_
            refine xthen_normal ?_
            refine xc_block ?_
            refine xc_seq ?_
            refine xc_region ?_
            refine xl_dec rfl rfl rfl (pv_eql rfl rfl rfl) (fun h7_0 => ?_) (fun h7_0 => ?_)
            · skip
              refine xl_pure rfl rfl rfl (pv_assign (v := .bool _) rfl rfl) ?_
              refine xl_nil ?_
              refine xthen_normal ?_
              refine xc_cond_t rfl ?_
              refine xc_seq ?_
              refine xc_region ?_
              refine xl_pure rfl rfl rfl (pv_move (v := .bool _) rfl rfl) ?_
              cases du
              · skip
                replace hdu := mt hdu.2 (by decide)
                refine xl_pure rfl rfl rfl (pv_move (v := .bool _) rfl rfl) ?_
                refine xl_skip rfl rfl rfl ?_
                refine xl_pure rfl rfl rfl (pv_pick_f (v := .bool _) rfl rfl rfl) ?_
                refine xl_pure rfl rfl rfl (pv_assign (v := .bool _) rfl rfl) ?_
                refine xl_nil ?_
                refine xthen_normal ?_
                refine xc_ret ?_
                refine xblock_ret ?_
                refine xthen_ret ?_
                refine fin_ret (res1 (v := .bool _) rfl rfl) ?_
                exact ⟨_, rfl, (by first | exact ⟨fun _ => by ((try unfold Stands at *); (try unfold Free at *); (try unfold Taken at *); (try unfold Due at *); (try unfold Who at *); (try unfold What at *); (try unfold Kin at *); omega), fun _ => rfl⟩ | exact ⟨fun h => absurd h (by decide), fun h => by ((try unfold Stands at *); (try unfold Free at *); (try unfold Taken at *); (try unfold Due at *); (try unfold Who at *); (try unfold What at *); (try unfold Kin at *); omega)⟩), hN0_0.ext⟩
              · skip
                replace hdu := hdu.1 rfl
                refine xl_pure rfl rfl rfl (pv_move (v := .bool _) rfl rfl) ?_
                refine xl_pure rfl rfl rfl (pv_move (v := .bool _) rfl rfl) ?_
                cases fr
                · skip
                  replace hfr := mt hfr.2 (by decide)
                  refine xl_pure rfl rfl rfl (pv_pick_t (v := .bool _) rfl rfl rfl) ?_
                  refine xl_pure rfl rfl rfl (pv_assign (v := .bool _) rfl rfl) ?_
                  refine xl_nil ?_
                  refine xthen_normal ?_
                  refine xc_ret ?_
                  refine xblock_ret ?_
                  refine xthen_ret ?_
                  refine fin_ret (res1 (v := .bool _) rfl rfl) ?_
                  exact ⟨_, rfl, (by first | exact ⟨fun _ => by ((try unfold Stands at *); (try unfold Free at *); (try unfold Taken at *); (try unfold Due at *); (try unfold Who at *); (try unfold What at *); (try unfold Kin at *); omega), fun _ => rfl⟩ | exact ⟨fun h => absurd h (by decide), fun h => by ((try unfold Stands at *); (try unfold Free at *); (try unfold Taken at *); (try unfold Due at *); (try unfold Who at *); (try unfold What at *); (try unfold Kin at *); omega)⟩), hN0_0.ext⟩
                · skip
                  replace hfr := hfr.1 rfl
                  refine xl_pure rfl rfl rfl (pv_pick_t (v := .bool _) rfl rfl rfl) ?_
                  refine xl_pure rfl rfl rfl (pv_assign (v := .bool _) rfl rfl) ?_
                  refine xl_nil ?_
                  refine xthen_normal ?_
                  refine xc_ret ?_
                  refine xblock_ret ?_
                  refine xthen_ret ?_
                  refine fin_ret (res1 (v := .bool _) rfl rfl) ?_
                  exact ⟨_, rfl, (by first | exact ⟨fun _ => by ((try unfold Stands at *); (try unfold Free at *); (try unfold Taken at *); (try unfold Due at *); (try unfold Who at *); (try unfold What at *); (try unfold Kin at *); omega), fun _ => rfl⟩ | exact ⟨fun h => absurd h (by decide), fun h => by ((try unfold Stands at *); (try unfold Free at *); (try unfold Taken at *); (try unfold Due at *); (try unfold Who at *); (try unfold What at *); (try unfold Kin at *); omega)⟩), hN0_0.ext⟩
            · skip
              refine xl_pure rfl rfl rfl (pv_assign (v := .bool _) rfl rfl) ?_
              refine xl_nil ?_
              refine xthen_normal ?_
              refine xc_cond_f rfl ?_
              refine xc_seq ?_
              refine xc_region ?_
              refine xl_dec rfl rfl rfl (pv_eql rfl rfl rfl) (fun h9_0 => ?_) (fun h9_0 => ?_)
              · skip
                refine xl_pure rfl rfl rfl (pv_assign (v := .bool _) rfl rfl) ?_
                refine xl_nil ?_
                refine xthen_normal ?_
                refine xc_cond_t rfl ?_
                refine xc_seq ?_
                refine xc_region ?_
                refine xl_pure rfl rfl rfl (pv_move (v := .bool _) rfl rfl) ?_
                cases co
                · skip
                  replace hco := mt hco.2 (by decide)
                  refine xl_pure rfl rfl rfl (pv_move (v := .bool _) rfl rfl) ?_
                  refine xl_skip rfl rfl rfl ?_
                  refine xl_pure rfl rfl rfl (pv_pick_f (v := .bool _) rfl rfl rfl) ?_
                  refine xl_pure rfl rfl rfl (pv_move (v := .bool _) rfl rfl) ?_
                  refine xl_skip rfl rfl rfl ?_
                  refine xl_pure rfl rfl rfl (pv_pick_f (v := .bool _) rfl rfl rfl) ?_
                  refine xl_pure rfl rfl rfl (pv_assign (v := .bool _) rfl rfl) ?_
                  refine xl_nil ?_
                  refine xthen_normal ?_
                  refine xc_ret ?_
                  refine xblock_ret ?_
                  refine xthen_ret ?_
                  refine fin_ret (res1 (v := .bool _) rfl rfl) ?_
                  exact ⟨_, rfl, (by first | exact ⟨fun _ => by ((try unfold Stands at *); (try unfold Free at *); (try unfold Taken at *); (try unfold Due at *); (try unfold Who at *); (try unfold What at *); (try unfold Kin at *); omega), fun _ => rfl⟩ | exact ⟨fun h => absurd h (by decide), fun h => by ((try unfold Stands at *); (try unfold Free at *); (try unfold Taken at *); (try unfold Due at *); (try unfold Who at *); (try unfold What at *); (try unfold Kin at *); omega)⟩), hN0_0.ext⟩
                · skip
                  replace hco := hco.1 rfl
                  refine xl_pure rfl rfl rfl (pv_move (v := .bool _) rfl rfl) ?_
                  refine xl_pure rfl rfl rfl (pv_move (v := .bool _) rfl rfl) ?_
                  cases du
                  · skip
                    replace hdu := mt hdu.2 (by decide)
                    refine xl_pure rfl rfl rfl (pv_pick_t (v := .bool _) rfl rfl rfl) ?_
                    refine xl_pure rfl rfl rfl (pv_move (v := .bool _) rfl rfl) ?_
                    refine xl_skip rfl rfl rfl ?_
                    refine xl_pure rfl rfl rfl (pv_pick_f (v := .bool _) rfl rfl rfl) ?_
                    refine xl_pure rfl rfl rfl (pv_assign (v := .bool _) rfl rfl) ?_
                    refine xl_nil ?_
                    refine xthen_normal ?_
                    refine xc_ret ?_
                    refine xblock_ret ?_
                    refine xthen_ret ?_
                    refine fin_ret (res1 (v := .bool _) rfl rfl) ?_
                    exact ⟨_, rfl, (by first | exact ⟨fun _ => by ((try unfold Stands at *); (try unfold Free at *); (try unfold Taken at *); (try unfold Due at *); (try unfold Who at *); (try unfold What at *); (try unfold Kin at *); omega), fun _ => rfl⟩ | exact ⟨fun h => absurd h (by decide), fun h => by ((try unfold Stands at *); (try unfold Free at *); (try unfold Taken at *); (try unfold Due at *); (try unfold Who at *); (try unfold What at *); (try unfold Kin at *); omega)⟩), hN0_0.ext⟩
                  · skip
                    replace hdu := hdu.1 rfl
                    refine xl_pure rfl rfl rfl (pv_pick_t (v := .bool _) rfl rfl rfl) ?_
                    refine xl_pure rfl rfl rfl (pv_move (v := .bool _) rfl rfl) ?_
                    refine xl_pure rfl rfl rfl (pv_move (v := .bool _) rfl rfl) ?_
                    cases tk
                    · skip
                      replace htk := mt htk.2 (by decide)
                      refine xl_pure rfl rfl rfl (pv_pick_t (v := .bool _) rfl rfl rfl) ?_
                      refine xl_pure rfl rfl rfl (pv_assign (v := .bool _) rfl rfl) ?_
                      refine xl_nil ?_
                      refine xthen_normal ?_
                      refine xc_ret ?_
                      refine xblock_ret ?_
                      refine xthen_ret ?_
                      refine fin_ret (res1 (v := .bool _) rfl rfl) ?_
                      exact ⟨_, rfl, (by first | exact ⟨fun _ => by ((try unfold Stands at *); (try unfold Free at *); (try unfold Taken at *); (try unfold Due at *); (try unfold Who at *); (try unfold What at *); (try unfold Kin at *); omega), fun _ => rfl⟩ | exact ⟨fun h => absurd h (by decide), fun h => by ((try unfold Stands at *); (try unfold Free at *); (try unfold Taken at *); (try unfold Due at *); (try unfold Who at *); (try unfold What at *); (try unfold Kin at *); omega)⟩), hN0_0.ext⟩
                    · skip
                      replace htk := htk.1 rfl
                      refine xl_pure rfl rfl rfl (pv_pick_t (v := .bool _) rfl rfl rfl) ?_
                      refine xl_pure rfl rfl rfl (pv_assign (v := .bool _) rfl rfl) ?_
                      refine xl_nil ?_
                      refine xthen_normal ?_
                      refine xc_ret ?_
                      refine xblock_ret ?_
                      refine xthen_ret ?_
                      refine fin_ret (res1 (v := .bool _) rfl rfl) ?_
                      exact ⟨_, rfl, (by first | exact ⟨fun _ => by ((try unfold Stands at *); (try unfold Free at *); (try unfold Taken at *); (try unfold Due at *); (try unfold Who at *); (try unfold What at *); (try unfold Kin at *); omega), fun _ => rfl⟩ | exact ⟨fun h => absurd h (by decide), fun h => by ((try unfold Stands at *); (try unfold Free at *); (try unfold Taken at *); (try unfold Due at *); (try unfold Who at *); (try unfold What at *); (try unfold Kin at *); omega)⟩), hN0_0.ext⟩
              · skip
                refine xl_pure rfl rfl rfl (pv_assign (v := .bool _) rfl rfl) ?_
                refine xl_nil ?_
                refine xthen_normal ?_
                refine xc_cond_f rfl ?_
                refine xc_seq ?_
                refine xc_region ?_
                refine xl_dec rfl rfl rfl (pv_eql rfl rfl rfl) (fun h11_0 => ?_) (fun h11_0 => ?_)
                · skip
                  refine xl_pure rfl rfl rfl (pv_assign (v := .bool _) rfl rfl) ?_
                  refine xl_nil ?_
                  refine xthen_normal ?_
                  refine xc_cond_t rfl ?_
                  refine xc_seq ?_
                  refine xc_region ?_
                  refine xl_pure rfl rfl rfl (pv_move (v := .bool _) rfl rfl) ?_
                  cases nv
                  · skip
                    replace hnv := mt hnv.2 (by decide)
                    refine xl_pure rfl rfl rfl (pv_move (v := .bool _) rfl rfl) ?_
                    refine xl_skip rfl rfl rfl ?_
                    refine xl_pure rfl rfl rfl (pv_pick_f (v := .bool _) rfl rfl rfl) ?_
                    refine xl_pure rfl rfl rfl (pv_assign (v := .bool _) rfl rfl) ?_
                    refine xl_nil ?_
                    refine xthen_normal ?_
                    refine xc_ret ?_
                    refine xblock_ret ?_
                    refine xthen_ret ?_
                    refine fin_ret (res1 (v := .bool _) rfl rfl) ?_
                    exact ⟨_, rfl, (by first | exact ⟨fun _ => by ((try unfold Stands at *); (try unfold Free at *); (try unfold Taken at *); (try unfold Due at *); (try unfold Who at *); (try unfold What at *); (try unfold Kin at *); omega), fun _ => rfl⟩ | exact ⟨fun h => absurd h (by decide), fun h => by ((try unfold Stands at *); (try unfold Free at *); (try unfold Taken at *); (try unfold Due at *); (try unfold Who at *); (try unfold What at *); (try unfold Kin at *); omega)⟩), hN0_0.ext⟩
                  · skip
                    replace hnv := hnv.1 rfl
                    refine xl_pure rfl rfl rfl (pv_move (v := .bool _) rfl rfl) ?_
                    refine xl_pure rfl rfl rfl (pv_move (v := .bool _) rfl rfl) ?_
                    cases tk
                    · skip
                      replace htk := mt htk.2 (by decide)
                      refine xl_pure rfl rfl rfl (pv_pick_t (v := .bool _) rfl rfl rfl) ?_
                      refine xl_pure rfl rfl rfl (pv_assign (v := .bool _) rfl rfl) ?_
                      refine xl_nil ?_
                      refine xthen_normal ?_
                      refine xc_ret ?_
                      refine xblock_ret ?_
                      refine xthen_ret ?_
                      refine fin_ret (res1 (v := .bool _) rfl rfl) ?_
                      exact ⟨_, rfl, (by first | exact ⟨fun _ => by ((try unfold Stands at *); (try unfold Free at *); (try unfold Taken at *); (try unfold Due at *); (try unfold Who at *); (try unfold What at *); (try unfold Kin at *); omega), fun _ => rfl⟩ | exact ⟨fun h => absurd h (by decide), fun h => by ((try unfold Stands at *); (try unfold Free at *); (try unfold Taken at *); (try unfold Due at *); (try unfold Who at *); (try unfold What at *); (try unfold Kin at *); omega)⟩), hN0_0.ext⟩
                    · skip
                      replace htk := htk.1 rfl
                      refine xl_pure rfl rfl rfl (pv_pick_t (v := .bool _) rfl rfl rfl) ?_
                      refine xl_pure rfl rfl rfl (pv_assign (v := .bool _) rfl rfl) ?_
                      refine xl_nil ?_
                      refine xthen_normal ?_
                      refine xc_ret ?_
                      refine xblock_ret ?_
                      refine xthen_ret ?_
                      refine fin_ret (res1 (v := .bool _) rfl rfl) ?_
                      exact ⟨_, rfl, (by first | exact ⟨fun _ => by ((try unfold Stands at *); (try unfold Free at *); (try unfold Taken at *); (try unfold Due at *); (try unfold Who at *); (try unfold What at *); (try unfold Kin at *); omega), fun _ => rfl⟩ | exact ⟨fun h => absurd h (by decide), fun h => by ((try unfold Stands at *); (try unfold Free at *); (try unfold Taken at *); (try unfold Due at *); (try unfold Who at *); (try unfold What at *); (try unfold Kin at *); omega)⟩), hN0_0.ext⟩
                · skip
                  refine xl_pure rfl rfl rfl (pv_assign (v := .bool _) rfl rfl) ?_
                  refine xl_nil ?_
                  refine xthen_normal ?_
                  refine xc_cond_f rfl ?_
                  refine xc_seq ?_
                  refine xc_region ?_
                  refine xl_dec rfl rfl rfl (pv_eql rfl rfl rfl) (fun h13_0 => ?_) (fun h13_0 => ?_)
                  · skip
                    refine xl_pure rfl rfl rfl (pv_assign (v := .bool _) rfl rfl) ?_
                    refine xl_nil ?_
                    refine xthen_normal ?_
                    refine xc_cond_t rfl ?_
                    refine xc_seq ?_
                    refine xc_region ?_
                    refine xl_pure rfl rfl rfl (pv_move (v := .bool _) rfl rfl) ?_
                    cases co
                    · skip
                      replace hco := mt hco.2 (by decide)
                      refine xl_pure rfl rfl rfl (pv_move (v := .bool _) rfl rfl) ?_
                      refine xl_skip rfl rfl rfl ?_
                      refine xl_pure rfl rfl rfl (pv_pick_f (v := .bool _) rfl rfl rfl) ?_
                      refine xl_pure rfl rfl rfl (pv_move (v := .bool _) rfl rfl) ?_
                      refine xl_skip rfl rfl rfl ?_
                      refine xl_pure rfl rfl rfl (pv_pick_f (v := .bool _) rfl rfl rfl) ?_
                      refine xl_pure rfl rfl rfl (pv_assign (v := .bool _) rfl rfl) ?_
                      refine xl_nil ?_
                      refine xthen_normal ?_
                      refine xc_ret ?_
                      refine xblock_ret ?_
                      refine xthen_ret ?_
                      refine fin_ret (res1 (v := .bool _) rfl rfl) ?_
                      exact ⟨_, rfl, (by first | exact ⟨fun _ => by ((try unfold Stands at *); (try unfold Free at *); (try unfold Taken at *); (try unfold Due at *); (try unfold Who at *); (try unfold What at *); (try unfold Kin at *); omega), fun _ => rfl⟩ | exact ⟨fun h => absurd h (by decide), fun h => by ((try unfold Stands at *); (try unfold Free at *); (try unfold Taken at *); (try unfold Due at *); (try unfold Who at *); (try unfold What at *); (try unfold Kin at *); omega)⟩), hN0_0.ext⟩
                    · skip
                      replace hco := hco.1 rfl
                      refine xl_pure rfl rfl rfl (pv_move (v := .bool _) rfl rfl) ?_
                      refine xl_pure rfl rfl rfl (pv_move (v := .bool _) rfl rfl) ?_
                      cases nv
                      · skip
                        replace hnv := mt hnv.2 (by decide)
                        refine xl_pure rfl rfl rfl (pv_pick_t (v := .bool _) rfl rfl rfl) ?_
                        refine xl_pure rfl rfl rfl (pv_move (v := .bool _) rfl rfl) ?_
                        refine xl_skip rfl rfl rfl ?_
                        refine xl_pure rfl rfl rfl (pv_pick_f (v := .bool _) rfl rfl rfl) ?_
                        refine xl_pure rfl rfl rfl (pv_assign (v := .bool _) rfl rfl) ?_
                        refine xl_nil ?_
                        refine xthen_normal ?_
                        refine xc_ret ?_
                        refine xblock_ret ?_
                        refine xthen_ret ?_
                        refine fin_ret (res1 (v := .bool _) rfl rfl) ?_
                        exact ⟨_, rfl, (by first | exact ⟨fun _ => by ((try unfold Stands at *); (try unfold Free at *); (try unfold Taken at *); (try unfold Due at *); (try unfold Who at *); (try unfold What at *); (try unfold Kin at *); omega), fun _ => rfl⟩ | exact ⟨fun h => absurd h (by decide), fun h => by ((try unfold Stands at *); (try unfold Free at *); (try unfold Taken at *); (try unfold Due at *); (try unfold Who at *); (try unfold What at *); (try unfold Kin at *); omega)⟩), hN0_0.ext⟩
                      · skip
                        replace hnv := hnv.1 rfl
                        refine xl_pure rfl rfl rfl (pv_pick_t (v := .bool _) rfl rfl rfl) ?_
                        refine xl_pure rfl rfl rfl (pv_move (v := .bool _) rfl rfl) ?_
                        refine xl_pure rfl rfl rfl (pv_move (v := .bool _) rfl rfl) ?_
                        cases tk
                        · skip
                          replace htk := mt htk.2 (by decide)
                          refine xl_pure rfl rfl rfl (pv_pick_t (v := .bool _) rfl rfl rfl) ?_
                          refine xl_pure rfl rfl rfl (pv_assign (v := .bool _) rfl rfl) ?_
                          refine xl_nil ?_
                          refine xthen_normal ?_
                          refine xc_ret ?_
                          refine xblock_ret ?_
                          refine xthen_ret ?_
                          refine fin_ret (res1 (v := .bool _) rfl rfl) ?_
                          exact ⟨_, rfl, (by first | exact ⟨fun _ => by ((try unfold Stands at *); (try unfold Free at *); (try unfold Taken at *); (try unfold Due at *); (try unfold Who at *); (try unfold What at *); (try unfold Kin at *); omega), fun _ => rfl⟩ | exact ⟨fun h => absurd h (by decide), fun h => by ((try unfold Stands at *); (try unfold Free at *); (try unfold Taken at *); (try unfold Due at *); (try unfold Who at *); (try unfold What at *); (try unfold Kin at *); omega)⟩), hN0_0.ext⟩
                        · skip
                          replace htk := htk.1 rfl
                          refine xl_pure rfl rfl rfl (pv_pick_t (v := .bool _) rfl rfl rfl) ?_
                          refine xl_pure rfl rfl rfl (pv_assign (v := .bool _) rfl rfl) ?_
                          refine xl_nil ?_
                          refine xthen_normal ?_
                          refine xc_ret ?_
                          refine xblock_ret ?_
                          refine xthen_ret ?_
                          refine fin_ret (res1 (v := .bool _) rfl rfl) ?_
                          exact ⟨_, rfl, (by first | exact ⟨fun _ => by ((try unfold Stands at *); (try unfold Free at *); (try unfold Taken at *); (try unfold Due at *); (try unfold Who at *); (try unfold What at *); (try unfold Kin at *); omega), fun _ => rfl⟩ | exact ⟨fun h => absurd h (by decide), fun h => by ((try unfold Stands at *); (try unfold Free at *); (try unfold Taken at *); (try unfold Due at *); (try unfold Who at *); (try unfold What at *); (try unfold Kin at *); omega)⟩), hN0_0.ext⟩
                  · skip
                    refine xl_pure rfl rfl rfl (pv_assign (v := .bool _) rfl rfl) ?_
                    refine xl_nil ?_
                    refine xthen_normal ?_
                    refine xc_cond_f rfl ?_
                    refine xc_seq ?_
                    refine xc_region ?_
                    refine xl_dec rfl rfl rfl (pv_eql rfl rfl rfl) (fun h15_0 => ?_) (fun h15_0 => ?_)
                    · skip
                      refine xl_pure rfl rfl rfl (pv_assign (v := .bool _) rfl rfl) ?_
                      refine xl_nil ?_
                      refine xthen_normal ?_
                      refine xc_cond_t rfl ?_
                      refine xc_seq ?_
                      refine xc_region ?_
                      refine xl_pure rfl rfl rfl (pv_fieldAddr rfl rfl) ?_
                      refine xl_light rfl rfl rfl (lv_load (v := .int _ _) rfl rfl (by first | exact ld_blk hN0_0.blk rfl)) ?_
                      refine xl_ndec rfl rfl rfl (pv_neq rfl rfl rfl) (fun h16_2 => ?_) (fun h16_2 => ?_)
                      · skip
                        refine xl_pure rfl rfl rfl (pv_move (v := .bool _) rfl rfl) ?_
                        refine xl_skip rfl rfl rfl ?_
                        refine xl_pure rfl rfl rfl (pv_pick_f (v := .bool _) rfl rfl rfl) ?_
                        refine xl_pure rfl rfl rfl (pv_move (v := .bool _) rfl rfl) ?_
                        refine xl_skip rfl rfl rfl ?_
                        refine xl_pure rfl rfl rfl (pv_pick_f (v := .bool _) rfl rfl rfl) ?_
                        refine xl_pure rfl rfl rfl (pv_assign (v := .bool _) rfl rfl) ?_
                        refine xl_nil ?_
                        refine xthen_normal ?_
                        refine xc_ret ?_
                        refine xblock_ret ?_
                        refine xthen_ret ?_
                        refine fin_ret (res1 (v := .bool _) rfl rfl) ?_
                        exact ⟨_, rfl, (by first | exact ⟨fun _ => by ((try unfold Stands at *); (try unfold Free at *); (try unfold Taken at *); (try unfold Due at *); (try unfold Who at *); (try unfold What at *); (try unfold Kin at *); omega), fun _ => rfl⟩ | exact ⟨fun h => absurd h (by decide), fun h => by ((try unfold Stands at *); (try unfold Free at *); (try unfold Taken at *); (try unfold Due at *); (try unfold Who at *); (try unfold What at *); (try unfold Kin at *); omega)⟩), hN0_0.ext⟩
                      · skip
                        refine xl_pure rfl rfl rfl (pv_move (v := .bool _) rfl rfl) ?_
                        refine xl_pure rfl rfl rfl (pv_move (v := .bool _) rfl rfl) ?_
                        cases nv
                        · skip
                          replace hnv := mt hnv.2 (by decide)
                          refine xl_pure rfl rfl rfl (pv_pick_t (v := .bool _) rfl rfl rfl) ?_
                          refine xl_pure rfl rfl rfl (pv_move (v := .bool _) rfl rfl) ?_
                          refine xl_skip rfl rfl rfl ?_
                          refine xl_pure rfl rfl rfl (pv_pick_f (v := .bool _) rfl rfl rfl) ?_
                          refine xl_pure rfl rfl rfl (pv_assign (v := .bool _) rfl rfl) ?_
                          refine xl_nil ?_
                          refine xthen_normal ?_
                          refine xc_ret ?_
                          refine xblock_ret ?_
                          refine xthen_ret ?_
                          refine fin_ret (res1 (v := .bool _) rfl rfl) ?_
                          exact ⟨_, rfl, (by first | exact ⟨fun _ => by ((try unfold Stands at *); (try unfold Free at *); (try unfold Taken at *); (try unfold Due at *); (try unfold Who at *); (try unfold What at *); (try unfold Kin at *); omega), fun _ => rfl⟩ | exact ⟨fun h => absurd h (by decide), fun h => by ((try unfold Stands at *); (try unfold Free at *); (try unfold Taken at *); (try unfold Due at *); (try unfold Who at *); (try unfold What at *); (try unfold Kin at *); omega)⟩), hN0_0.ext⟩
                        · skip
                          replace hnv := hnv.1 rfl
                          refine xl_pure rfl rfl rfl (pv_pick_t (v := .bool _) rfl rfl rfl) ?_
                          refine xl_pure rfl rfl rfl (pv_move (v := .bool _) rfl rfl) ?_
                          refine xl_pure rfl rfl rfl (pv_move (v := .bool _) rfl rfl) ?_
                          cases fr
                          · skip
                            replace hfr := mt hfr.2 (by decide)
                            refine xl_pure rfl rfl rfl (pv_pick_t (v := .bool _) rfl rfl rfl) ?_
                            refine xl_pure rfl rfl rfl (pv_assign (v := .bool _) rfl rfl) ?_
                            refine xl_nil ?_
                            refine xthen_normal ?_
                            refine xc_ret ?_
                            refine xblock_ret ?_
                            refine xthen_ret ?_
                            refine fin_ret (res1 (v := .bool _) rfl rfl) ?_
                            exact ⟨_, rfl, (by first | exact ⟨fun _ => by ((try unfold Stands at *); (try unfold Free at *); (try unfold Taken at *); (try unfold Due at *); (try unfold Who at *); (try unfold What at *); (try unfold Kin at *); omega), fun _ => rfl⟩ | exact ⟨fun h => absurd h (by decide), fun h => by ((try unfold Stands at *); (try unfold Free at *); (try unfold Taken at *); (try unfold Due at *); (try unfold Who at *); (try unfold What at *); (try unfold Kin at *); omega)⟩), hN0_0.ext⟩
                          · skip
                            replace hfr := hfr.1 rfl
                            refine xl_pure rfl rfl rfl (pv_pick_t (v := .bool _) rfl rfl rfl) ?_
                            refine xl_pure rfl rfl rfl (pv_assign (v := .bool _) rfl rfl) ?_
                            refine xl_nil ?_
                            refine xthen_normal ?_
                            refine xc_ret ?_
                            refine xblock_ret ?_
                            refine xthen_ret ?_
                            refine fin_ret (res1 (v := .bool _) rfl rfl) ?_
                            exact ⟨_, rfl, (by first | exact ⟨fun _ => by ((try unfold Stands at *); (try unfold Free at *); (try unfold Taken at *); (try unfold Due at *); (try unfold Who at *); (try unfold What at *); (try unfold Kin at *); omega), fun _ => rfl⟩ | exact ⟨fun h => absurd h (by decide), fun h => by ((try unfold Stands at *); (try unfold Free at *); (try unfold Taken at *); (try unfold Due at *); (try unfold Who at *); (try unfold What at *); (try unfold Kin at *); omega)⟩), hN0_0.ext⟩
                    · skip
                      refine xl_pure rfl rfl rfl (pv_assign (v := .bool _) rfl rfl) ?_
                      refine xl_nil ?_
                      refine xthen_normal ?_
                      refine xc_cond_f rfl ?_
                      refine xc_seq ?_
                      refine xc_seq ?_
                      refine xc_region ?_
                      refine xl_dec rfl rfl rfl (pv_eql rfl rfl rfl) (fun h17_0 => ?_) (fun h17_0 => ?_)
                      · skip
                        refine xl_pure rfl rfl rfl (pv_assign (v := .bool _) rfl rfl) ?_
                        refine xl_nil ?_
                        refine xthen_normal ?_
                        refine xc_cond_t rfl ?_
                        refine xc_skip ?_
                        refine xthen_normal ?_
                        refine xc_cond_t rfl ?_
                        refine xc_seq ?_
                        refine xc_region ?_
                        refine xl_pure rfl rfl rfl (pv_move (v := .bool _) rfl rfl) ?_
                        cases nv
                        · skip
                          replace hnv := mt hnv.2 (by decide)
                          refine xl_pure rfl rfl rfl (pv_move (v := .bool _) rfl rfl) ?_
                          refine xl_skip rfl rfl rfl ?_
                          refine xl_pure rfl rfl rfl (pv_pick_f (v := .bool _) rfl rfl rfl) ?_
                          refine xl_pure rfl rfl rfl (pv_assign (v := .bool _) rfl rfl) ?_
                          refine xl_nil ?_
                          refine xthen_normal ?_
                          refine xc_ret ?_
                          refine xblock_ret ?_
                          refine xthen_ret ?_
                          refine fin_ret (res1 (v := .bool _) rfl rfl) ?_
                          exact ⟨_, rfl, (by first | exact ⟨fun _ => by ((try unfold Stands at *); (try unfold Free at *); (try unfold Taken at *); (try unfold Due at *); (try unfold Who at *); (try unfold What at *); (try unfold Kin at *); omega), fun _ => rfl⟩ | exact ⟨fun h => absurd h (by decide), fun h => by ((try unfold Stands at *); (try unfold Free at *); (try unfold Taken at *); (try unfold Due at *); (try unfold Who at *); (try unfold What at *); (try unfold Kin at *); omega)⟩), hN0_0.ext⟩
                        · skip
                          replace hnv := hnv.1 rfl
                          refine xl_pure rfl rfl rfl (pv_move (v := .bool _) rfl rfl) ?_
                          refine xl_pure rfl rfl rfl (pv_move (v := .bool _) rfl rfl) ?_
                          cases fr
                          · skip
                            replace hfr := mt hfr.2 (by decide)
                            refine xl_pure rfl rfl rfl (pv_pick_t (v := .bool _) rfl rfl rfl) ?_
                            refine xl_pure rfl rfl rfl (pv_assign (v := .bool _) rfl rfl) ?_
                            refine xl_nil ?_
                            refine xthen_normal ?_
                            refine xc_ret ?_
                            refine xblock_ret ?_
                            refine xthen_ret ?_
                            refine fin_ret (res1 (v := .bool _) rfl rfl) ?_
                            exact ⟨_, rfl, (by first | exact ⟨fun _ => by ((try unfold Stands at *); (try unfold Free at *); (try unfold Taken at *); (try unfold Due at *); (try unfold Who at *); (try unfold What at *); (try unfold Kin at *); omega), fun _ => rfl⟩ | exact ⟨fun h => absurd h (by decide), fun h => by ((try unfold Stands at *); (try unfold Free at *); (try unfold Taken at *); (try unfold Due at *); (try unfold Who at *); (try unfold What at *); (try unfold Kin at *); omega)⟩), hN0_0.ext⟩
                          · skip
                            replace hfr := hfr.1 rfl
                            refine xl_pure rfl rfl rfl (pv_pick_t (v := .bool _) rfl rfl rfl) ?_
                            refine xl_pure rfl rfl rfl (pv_assign (v := .bool _) rfl rfl) ?_
                            refine xl_nil ?_
                            refine xthen_normal ?_
                            refine xc_ret ?_
                            refine xblock_ret ?_
                            refine xthen_ret ?_
                            refine fin_ret (res1 (v := .bool _) rfl rfl) ?_
                            exact ⟨_, rfl, (by first | exact ⟨fun _ => by ((try unfold Stands at *); (try unfold Free at *); (try unfold Taken at *); (try unfold Due at *); (try unfold Who at *); (try unfold What at *); (try unfold Kin at *); omega), fun _ => rfl⟩ | exact ⟨fun h => absurd h (by decide), fun h => by ((try unfold Stands at *); (try unfold Free at *); (try unfold Taken at *); (try unfold Due at *); (try unfold Who at *); (try unfold What at *); (try unfold Kin at *); omega)⟩), hN0_0.ext⟩
                      · skip
                        refine xl_pure rfl rfl rfl (pv_assign (v := .bool _) rfl rfl) ?_
                        refine xl_nil ?_
                        refine xthen_normal ?_
                        refine xc_cond_f rfl ?_
                        refine xc_region ?_
                        refine xl_dec rfl rfl rfl (pv_eql rfl rfl rfl) (fun h18_0 => ?_) (fun h18_0 => ?_)
                        · skip
                          refine xl_pure rfl rfl rfl (pv_assign (v := .bool _) rfl rfl) ?_
                          refine xl_nil ?_
                          refine xthen_normal ?_
                          refine xc_cond_t rfl ?_
                          refine xc_seq ?_
                          refine xc_region ?_
                          refine xl_pure rfl rfl rfl (pv_move (v := .bool _) rfl rfl) ?_
                          cases nv
                          · skip
                            replace hnv := mt hnv.2 (by decide)
                            refine xl_pure rfl rfl rfl (pv_move (v := .bool _) rfl rfl) ?_
                            refine xl_skip rfl rfl rfl ?_
                            refine xl_pure rfl rfl rfl (pv_pick_f (v := .bool _) rfl rfl rfl) ?_
                            refine xl_pure rfl rfl rfl (pv_assign (v := .bool _) rfl rfl) ?_
                            refine xl_nil ?_
                            refine xthen_normal ?_
                            refine xc_ret ?_
                            refine xblock_ret ?_
                            refine xthen_ret ?_
                            refine fin_ret (res1 (v := .bool _) rfl rfl) ?_
                            exact ⟨_, rfl, (by first | exact ⟨fun _ => by ((try unfold Stands at *); (try unfold Free at *); (try unfold Taken at *); (try unfold Due at *); (try unfold Who at *); (try unfold What at *); (try unfold Kin at *); omega), fun _ => rfl⟩ | exact ⟨fun h => absurd h (by decide), fun h => by ((try unfold Stands at *); (try unfold Free at *); (try unfold Taken at *); (try unfold Due at *); (try unfold Who at *); (try unfold What at *); (try unfold Kin at *); omega)⟩), hN0_0.ext⟩
                          · skip
                            replace hnv := hnv.1 rfl
                            refine xl_pure rfl rfl rfl (pv_move (v := .bool _) rfl rfl) ?_
                            refine xl_pure rfl rfl rfl (pv_move (v := .bool _) rfl rfl) ?_
                            cases fr
                            · skip
                              replace hfr := mt hfr.2 (by decide)
                              refine xl_pure rfl rfl rfl (pv_pick_t (v := .bool _) rfl rfl rfl) ?_
                              refine xl_pure rfl rfl rfl (pv_assign (v := .bool _) rfl rfl) ?_
                              refine xl_nil ?_
                              refine xthen_normal ?_
                              refine xc_ret ?_
                              refine xblock_ret ?_
                              refine xthen_ret ?_
                              refine fin_ret (res1 (v := .bool _) rfl rfl) ?_
                              exact ⟨_, rfl, (by first | exact ⟨fun _ => by ((try unfold Stands at *); (try unfold Free at *); (try unfold Taken at *); (try unfold Due at *); (try unfold Who at *); (try unfold What at *); (try unfold Kin at *); omega), fun _ => rfl⟩ | exact ⟨fun h => absurd h (by decide), fun h => by ((try unfold Stands at *); (try unfold Free at *); (try unfold Taken at *); (try unfold Due at *); (try unfold Who at *); (try unfold What at *); (try unfold Kin at *); omega)⟩), hN0_0.ext⟩
                            · skip
                              replace hfr := hfr.1 rfl
                              refine xl_pure rfl rfl rfl (pv_pick_t (v := .bool _) rfl rfl rfl) ?_
                              refine xl_pure rfl rfl rfl (pv_assign (v := .bool _) rfl rfl) ?_
                              refine xl_nil ?_
                              refine xthen_normal ?_
                              refine xc_ret ?_
                              refine xblock_ret ?_
                              refine xthen_ret ?_
                              refine fin_ret (res1 (v := .bool _) rfl rfl) ?_
                              exact ⟨_, rfl, (by first | exact ⟨fun _ => by ((try unfold Stands at *); (try unfold Free at *); (try unfold Taken at *); (try unfold Due at *); (try unfold Who at *); (try unfold What at *); (try unfold Kin at *); omega), fun _ => rfl⟩ | exact ⟨fun h => absurd h (by decide), fun h => by ((try unfold Stands at *); (try unfold Free at *); (try unfold Taken at *); (try unfold Due at *); (try unfold Who at *); (try unfold What at *); (try unfold Kin at *); omega)⟩), hN0_0.ext⟩
                        · skip
                          refine xl_pure rfl rfl rfl (pv_assign (v := .bool _) rfl rfl) ?_
                          refine xl_nil ?_
                          refine xthen_normal ?_
                          refine xc_cond_f rfl ?_
                          refine xc_skip ?_
                          refine xblock_normal ?_
                          refine xthen_normal ?_
                          refine xc_seq ?_
                          refine xc_region ?_
                          refine xl_pure rfl rfl rfl (pv_assign (v := .bool _) rfl rfl) ?_
                          refine xl_nil ?_
                          refine xthen_normal ?_
                          refine xc_ret ?_
                          refine fin_ret (res1 (v := .bool _) rfl rfl) ?_
                          exact ⟨_, rfl, (by first | exact ⟨fun _ => by ((try unfold Stands at *); (try unfold Free at *); (try unfold Taken at *); (try unfold Due at *); (try unfold Who at *); (try unfold What at *); (try unfold Kin at *); omega), fun _ => rfl⟩ | exact ⟨fun h => absurd h (by decide), fun h => by ((try unfold Stands at *); (try unfold Free at *); (try unfold Taken at *); (try unfold Due at *); (try unfold Who at *); (try unfold What at *); (try unfold Kin at *); omega)⟩), hN0_0.ext⟩

theorem c55 {O : Outer} {H : Heap} (d : D) (a b : Option Addr) (c e : Nat) :
    FnC Try.prog 55 #[.agg (dcs d a b c e).toArray] O H (fun v H' => ∃ r, v = .bool r ∧ (r = true ↔ Taken d) ∧ Ext H H') := by
  refine fn_enter (A := [.agg (dcs d a b c e).toArray]) Try.func55 rfl rfl ?_
  refine xc_seq ?_
  refine xc_region ?_
  refine xl_heavy rfl rfl rfl (hv_box rfl rfl) ?_
  rintro v0_0 H0_0 ⟨b0_0, rfl, hN0_0⟩
  refine xl_pure rfl rfl rfl (pv_assign (v := .bool _) rfl rfl) ?_
  refine xl_nil ?_
  refine xthen_normal ?_
  refine xc_seq ?_
  refine xc_region ?_
  refine xl_pure rfl rfl rfl (pv_fieldAddr rfl rfl) ?_
  refine xl_light rfl rfl rfl (lv_load (v := .int _ _) rfl rfl (by first | exact ld_blk hN0_0.blk rfl)) ?_
  refine xl_heavy rfl rfl rfl (hv_call (g := 31) rfl rfl (c31 _ _ _) rfl) ?_
  rintro v1_2 H1_2 ⟨r1_2, rfl, hb1_2, rfl⟩
  cases r1_2
  · skip
    replace hb1_2 := mt hb1_2.2 (by decide)
    refine xl_pure rfl rfl rfl (pv_move (v := .bool _) rfl rfl) ?_
    refine xl_skip rfl rfl rfl ?_
    refine xl_skip rfl rfl rfl ?_
    refine xl_skip rfl rfl rfl ?_
    refine xl_skip rfl rfl rfl ?_
    refine xl_skip rfl rfl rfl ?_
    refine xl_pure rfl rfl rfl (pv_pick_f (v := .bool _) rfl rfl rfl) ?_
    refine xl_pure rfl rfl rfl (pv_move (v := .bool _) rfl rfl) ?_
    refine xl_skip rfl rfl rfl ?_
    refine xl_skip rfl rfl rfl ?_
    refine xl_skip rfl rfl rfl ?_
    refine xl_pure rfl rfl rfl (pv_pick_f (v := .bool _) rfl rfl rfl) ?_
    refine xl_pure rfl rfl rfl (pv_assign (v := .bool _) rfl rfl) ?_
    refine xl_nil ?_
    refine xthen_normal ?_
    refine xc_ret ?_
    refine fin_ret (res1 (v := .bool _) rfl rfl) ?_
    exact ⟨_, rfl, (by first | exact ⟨fun _ => by ((try unfold Stands at *); (try unfold Free at *); (try unfold Taken at *); (try unfold Due at *); (try unfold Who at *); (try unfold What at *); (try unfold Kin at *); omega), fun _ => rfl⟩ | exact ⟨fun h => absurd h (by decide), fun h => by ((try unfold Stands at *); (try unfold Free at *); (try unfold Taken at *); (try unfold Due at *); (try unfold Who at *); (try unfold What at *); (try unfold Kin at *); omega)⟩), hN0_0.ext⟩
  · skip
    replace hb1_2 := hb1_2.1 rfl
    refine xl_pure rfl rfl rfl (pv_move (v := .bool _) rfl rfl) ?_
    refine xl_pure rfl rfl rfl (pv_fieldAddr rfl rfl) ?_
    refine xl_light rfl rfl rfl (lv_load (v := .int _ _) rfl rfl (by first | exact ld_blk hN0_0.blk rfl)) ?_
    refine xl_pure rfl rfl rfl (pv_fieldAddr rfl rfl) ?_
    refine xl_light rfl rfl rfl (lv_load (v := .int _ _) rfl rfl (by first | exact ld_blk hN0_0.blk rfl)) ?_
    refine xl_ndec rfl rfl rfl (pv_neq rfl rfl rfl) (fun h1_8 => ?_) (fun h1_8 => ?_)
    · skip
      refine xl_pure rfl rfl rfl (pv_pick_t (v := .bool _) rfl rfl rfl) ?_
      refine xl_pure rfl rfl rfl (pv_move (v := .bool _) rfl rfl) ?_
      refine xl_skip rfl rfl rfl ?_
      refine xl_skip rfl rfl rfl ?_
      refine xl_skip rfl rfl rfl ?_
      refine xl_pure rfl rfl rfl (pv_pick_f (v := .bool _) rfl rfl rfl) ?_
      refine xl_pure rfl rfl rfl (pv_assign (v := .bool _) rfl rfl) ?_
      refine xl_nil ?_
      refine xthen_normal ?_
      refine xc_ret ?_
      refine fin_ret (res1 (v := .bool _) rfl rfl) ?_
      exact ⟨_, rfl, (by first | exact ⟨fun _ => by ((try unfold Stands at *); (try unfold Free at *); (try unfold Taken at *); (try unfold Due at *); (try unfold Who at *); (try unfold What at *); (try unfold Kin at *); omega), fun _ => rfl⟩ | exact ⟨fun h => absurd h (by decide), fun h => by ((try unfold Stands at *); (try unfold Free at *); (try unfold Taken at *); (try unfold Due at *); (try unfold Who at *); (try unfold What at *); (try unfold Kin at *); omega)⟩), hN0_0.ext⟩
    · skip
      refine xl_pure rfl rfl rfl (pv_pick_t (v := .bool _) rfl rfl rfl) ?_
      refine xl_pure rfl rfl rfl (pv_move (v := .bool _) rfl rfl) ?_
      refine xl_pure rfl rfl rfl (pv_fieldAddr rfl rfl) ?_
      refine xl_light rfl rfl rfl (lv_load (v := .int _ _) rfl rfl (by first | exact ld_blk hN0_0.blk rfl)) ?_
      refine xl_heavy rfl rfl rfl (hv_call (g := 31) rfl rfl (c31 _ _ _) rfl) ?_
      rintro v1_13 H1_13 ⟨r1_13, rfl, hb1_13, rfl⟩
      cases r1_13
      · skip
        replace hb1_13 := mt hb1_13.2 (by decide)
        refine xl_pure rfl rfl rfl (pv_pick_t (v := .bool _) rfl rfl rfl) ?_
        refine xl_pure rfl rfl rfl (pv_assign (v := .bool _) rfl rfl) ?_
        refine xl_nil ?_
        refine xthen_normal ?_
        refine xc_ret ?_
        refine fin_ret (res1 (v := .bool _) rfl rfl) ?_
        exact ⟨_, rfl, (by first | exact ⟨fun _ => by ((try unfold Stands at *); (try unfold Free at *); (try unfold Taken at *); (try unfold Due at *); (try unfold Who at *); (try unfold What at *); (try unfold Kin at *); omega), fun _ => rfl⟩ | exact ⟨fun h => absurd h (by decide), fun h => by ((try unfold Stands at *); (try unfold Free at *); (try unfold Taken at *); (try unfold Due at *); (try unfold Who at *); (try unfold What at *); (try unfold Kin at *); omega)⟩), hN0_0.ext⟩
      · skip
        replace hb1_13 := hb1_13.1 rfl
        refine xl_pure rfl rfl rfl (pv_pick_t (v := .bool _) rfl rfl rfl) ?_
        refine xl_pure rfl rfl rfl (pv_assign (v := .bool _) rfl rfl) ?_
        refine xl_nil ?_
        refine xthen_normal ?_
        refine xc_ret ?_
        refine fin_ret (res1 (v := .bool _) rfl rfl) ?_
        exact ⟨_, rfl, (by first | exact ⟨fun _ => by ((try unfold Stands at *); (try unfold Free at *); (try unfold Taken at *); (try unfold Due at *); (try unfold Who at *); (try unfold What at *); (try unfold Kin at *); omega), fun _ => rfl⟩ | exact ⟨fun h => absurd h (by decide), fun h => by ((try unfold Stands at *); (try unfold Free at *); (try unfold Taken at *); (try unfold Due at *); (try unfold Who at *); (try unfold What at *); (try unfold Kin at *); omega)⟩), hN0_0.ext⟩

theorem c41 {O : Outer} {H : Heap} (d : D) (a b : Option Addr) (c e : Nat) :
    FnC Try.prog 41 #[.agg (dcs d a b c e).toArray] O H (fun v H' => ∃ r, v = .bool r ∧ (r = true ↔ Stands d) ∧ Ext H H') := by
  refine fn_enter (A := [.agg (dcs d a b c e).toArray]) Try.func41 rfl rfl ?_
  refine xc_seq ?_
  refine xc_region ?_
  refine xl_heavy rfl rfl rfl (hv_box rfl rfl) ?_
  rintro v0_0 H0_0 ⟨b0_0, rfl, hN0_0⟩
  refine xl_pure rfl rfl rfl (pv_assign (v := .bool _) rfl rfl) ?_
  refine xl_nil ?_
  refine xthen_normal ?_
  refine xc_cut (τ := Bool) (fun t => [(1, .pointer (some ⟨b0_0, 0, none⟩)), (3, .bool t)]) (fun t H' => (t = true ↔ d.kind = 1) ∧ H0_0 = H') ?_ ?_
  · skip
    refine xc_region ?_
    refine xl_pure rfl rfl rfl (pv_fieldAddr rfl rfl) ?_
    refine xl_light rfl rfl rfl (lv_load (v := .int _ _) rfl rfl (by first | exact ld_blk hN0_0.blk rfl | exact ld_blk_a hN0_0.blk rfl rfl)) ?_
    refine xl_dec rfl rfl rfl (pv_eql rfl rfl rfl) (fun h1_2 => ?_) (fun h1_2 => ?_)
    · skip
      refine xl_pure rfl rfl rfl (pv_assign (v := .bool _) rfl rfl) ?_
      refine xl_nil ?_
      refine xthen_normal ?_
      exact ⟨_, ⟨rfl, rfl, trivial⟩, (by first | exact ⟨fun _ => by ((try unfold Stands at *); (try unfold Free at *); (try unfold Taken at *); (try unfold Due at *); (try unfold Who at *); (try unfold What at *); (try unfold Kin at *); omega), fun _ => rfl⟩ | exact ⟨fun h => absurd h (by decide), fun h => by ((try unfold Stands at *); (try unfold Free at *); (try unfold Taken at *); (try unfold Due at *); (try unfold Who at *); (try unfold What at *); (try unfold Kin at *); omega)⟩), rfl⟩
    · skip
      refine xl_pure rfl rfl rfl (pv_assign (v := .bool _) rfl rfl) ?_
      refine xl_nil ?_
      refine xthen_normal ?_
      exact ⟨_, ⟨rfl, rfl, trivial⟩, (by first | exact ⟨fun _ => by ((try unfold Stands at *); (try unfold Free at *); (try unfold Taken at *); (try unfold Due at *); (try unfold Who at *); (try unfold What at *); (try unfold Kin at *); omega), fun _ => rfl⟩ | exact ⟨fun h => absurd h (by decide), fun h => by ((try unfold Stands at *); (try unfold Free at *); (try unfold Taken at *); (try unfold Due at *); (try unfold Who at *); (try unfold What at *); (try unfold Kin at *); omega)⟩), rfl⟩
  · intro σ
    rintro co Hm ⟨hco, rfl⟩
    show XC _ _ _ (upds σ [(1, .pointer (some ⟨b0_0, 0, none⟩)), (3, .bool co)]) _
    refine xc_cut (τ := Bool) (fun t => [(1, .pointer (some ⟨b0_0, 0, none⟩)), (3, .bool co), (4, .bool t)]) (fun t H' => (t = true ↔ Free d) ∧ H0_0 = H') ?_ ?_
    · skip
      refine xc_region ?_
      refine xl_pure rfl rfl rfl (pv_fieldAddr rfl rfl) ?_
      refine xl_light rfl rfl rfl (lv_load (v := .int _ _) rfl rfl (by first | exact ld_blk hN0_0.blk rfl | exact ld_blk_a hN0_0.blk rfl rfl)) ?_
      refine xl_dec rfl rfl rfl (pv_eql rfl rfl rfl) (fun h2_2 => ?_) (fun h2_2 => ?_)
      · skip
        refine xl_pure rfl rfl rfl (pv_move (v := .bool _) rfl rfl) ?_
        refine xl_pure rfl rfl rfl (pv_fieldAddr rfl rfl) ?_
        refine xl_light rfl rfl rfl (lv_load (v := .int _ _) rfl rfl (by first | exact ld_blk hN0_0.blk rfl | exact ld_blk_a hN0_0.blk rfl rfl)) ?_
        refine xl_dec rfl rfl rfl (pv_eql rfl rfl rfl) (fun h2_6 => ?_) (fun h2_6 => ?_)
        · skip
          refine xl_pure rfl rfl rfl (pv_pick_t (v := .bool _) rfl rfl rfl) ?_
          refine xl_pure rfl rfl rfl (pv_assign (v := .bool _) rfl rfl) ?_
          refine xl_nil ?_
          refine xthen_normal ?_
          exact ⟨_, ⟨rfl, rfl, rfl, trivial⟩, (by first | exact ⟨fun _ => by ((try unfold Stands at *); (try unfold Free at *); (try unfold Taken at *); (try unfold Due at *); (try unfold Who at *); (try unfold What at *); (try unfold Kin at *); omega), fun _ => rfl⟩ | exact ⟨fun h => absurd h (by decide), fun h => by ((try unfold Stands at *); (try unfold Free at *); (try unfold Taken at *); (try unfold Due at *); (try unfold Who at *); (try unfold What at *); (try unfold Kin at *); omega)⟩), rfl⟩
        · skip
          refine xl_pure rfl rfl rfl (pv_pick_t (v := .bool _) rfl rfl rfl) ?_
          refine xl_pure rfl rfl rfl (pv_assign (v := .bool _) rfl rfl) ?_
          refine xl_nil ?_
          refine xthen_normal ?_
          exact ⟨_, ⟨rfl, rfl, rfl, trivial⟩, (by first | exact ⟨fun _ => by ((try unfold Stands at *); (try unfold Free at *); (try unfold Taken at *); (try unfold Due at *); (try unfold Who at *); (try unfold What at *); (try unfold Kin at *); omega), fun _ => rfl⟩ | exact ⟨fun h => absurd h (by decide), fun h => by ((try unfold Stands at *); (try unfold Free at *); (try unfold Taken at *); (try unfold Due at *); (try unfold Who at *); (try unfold What at *); (try unfold Kin at *); omega)⟩), rfl⟩
      · skip
        refine xl_pure rfl rfl rfl (pv_move (v := .bool _) rfl rfl) ?_
        refine xl_skip rfl rfl rfl ?_
        refine xl_skip rfl rfl rfl ?_
        refine xl_skip rfl rfl rfl ?_
        refine xl_pure rfl rfl rfl (pv_pick_f (v := .bool _) rfl rfl rfl) ?_
        refine xl_pure rfl rfl rfl (pv_assign (v := .bool _) rfl rfl) ?_
        refine xl_nil ?_
        refine xthen_normal ?_
        exact ⟨_, ⟨rfl, rfl, rfl, trivial⟩, (by first | exact ⟨fun _ => by ((try unfold Stands at *); (try unfold Free at *); (try unfold Taken at *); (try unfold Due at *); (try unfold Who at *); (try unfold What at *); (try unfold Kin at *); omega), fun _ => rfl⟩ | exact ⟨fun h => absurd h (by decide), fun h => by ((try unfold Stands at *); (try unfold Free at *); (try unfold Taken at *); (try unfold Due at *); (try unfold Who at *); (try unfold What at *); (try unfold Kin at *); omega)⟩), rfl⟩
    · intro σ
      rintro fr Hm ⟨hfr, rfl⟩
      show XC _ _ _ (upds σ [(1, .pointer (some ⟨b0_0, 0, none⟩)), (3, .bool co), (4, .bool fr)]) _
      refine xc_cut (τ := Bool) (fun t => [(1, .pointer (some ⟨b0_0, 0, none⟩)), (3, .bool co), (4, .bool fr), (5, .bool t)]) (fun t H' => (t = true ↔ Due d) ∧ H0_0 = H') ?_ ?_
      · skip
        refine xc_region ?_
        refine xl_pure rfl rfl rfl (pv_fieldAddr rfl rfl) ?_
        refine xl_light rfl rfl rfl (lv_load (v := .int _ _) rfl rfl (by first | exact ld_blk hN0_0.blk rfl | exact ld_blk_a hN0_0.blk rfl rfl)) ?_
        refine xl_heavy rfl rfl rfl (hv_call (g := 31) rfl rfl (c31 _ _ _) rfl) ?_
        rintro v3_2 H3_2 ⟨r3_2, rfl, hb3_2, rfl⟩
        refine xl_pure rfl rfl rfl (pv_assign (v := .bool _) rfl rfl) ?_
        refine xl_nil ?_
        refine xthen_normal ?_
        exact ⟨_, ⟨rfl, rfl, rfl, rfl, trivial⟩, hb3_2, rfl⟩
      · intro σ
        rintro du Hm ⟨hdu, rfl⟩
        show XC _ _ _ (upds σ [(1, .pointer (some ⟨b0_0, 0, none⟩)), (3, .bool co), (4, .bool fr), (5, .bool du)]) _
        refine xc_seq ?_
        refine xc_seq ?_
        refine xc_region ?_
        refine xl_pure rfl rfl rfl (pv_fieldAddr rfl rfl) ?_
        refine xl_light rfl rfl rfl (lv_load (v := .int _ _) rfl rfl (by first | exact ld_blk hN0_0.blk rfl | exact ld_blk_a hN0_0.blk rfl rfl)) ?_
        refine xl_nil ?_
        refine xthen_normal ?_
        refine xc_block ?_
        refine xc_seq ?_
        refine xc_region ?_
        refine xl_dec rfl rfl rfl (pv_eql rfl rfl rfl) (fun h5_0 => ?_) (fun h5_0 => ?_)
        · skip
          refine xl_pure rfl rfl rfl (pv_assign (v := .bool _) rfl rfl) ?_
          refine xl_nil ?_
          refine xthen_normal ?_
          refine xc_cond_t rfl ?_
          refine xc_seq ?_
          refine xc_region ?_
          refine xl_pure rfl rfl rfl (pv_move (v := .bool _) rfl rfl) ?_
          cases du
          · skip
            replace hdu := mt hdu.2 (by decide)
            refine xl_pure rfl rfl rfl (pv_move (v := .bool _) rfl rfl) ?_
            refine xl_skip rfl rfl rfl ?_
            refine xl_pure rfl rfl rfl (pv_pick_f (v := .bool _) rfl rfl rfl) ?_
            refine xl_pure rfl rfl rfl (pv_assign (v := .bool _) rfl rfl) ?_
            refine xl_nil ?_
            refine xthen_normal ?_
            refine xc_ret ?_
            refine xblock_ret ?_
            refine xthen_ret ?_
            refine fin_ret (res1 (v := .bool _) rfl rfl) ?_
            first
              | exact ⟨_, rfl, (by first | exact ⟨fun _ => by ((try unfold Stands at *); (try unfold Free at *); (try unfold Taken at *); (try unfold Due at *); (try unfold Who at *); (try unfold What at *); (try unfold Kin at *); omega), fun _ => rfl⟩ | exact ⟨fun h => absurd h (by decide), fun h => by ((try unfold Stands at *); (try unfold Free at *); (try unfold Taken at *); (try unfold Due at *); (try unfold Who at *); (try unfold What at *); (try unfold Kin at *); omega)⟩), hN0_0.ext⟩
              | exact ⟨_, rfl, (by first | exact ⟨fun _ => by ((try unfold Stands at *); (try unfold Free at *); (try unfold Taken at *); (try unfold Due at *); (try unfold Who at *); (try unfold What at *); (try unfold Kin at *); omega), fun _ => rfl⟩ | exact ⟨fun h => absurd h (by decide), fun h => by ((try unfold Stands at *); (try unfold Free at *); (try unfold Taken at *); (try unfold Due at *); (try unfold Who at *); (try unfold What at *); (try unfold Kin at *); omega)⟩), hN0_0.ext.trans hE8_6⟩
              | exact ⟨_, rfl, (by first | exact ⟨fun _ => by ((try unfold Stands at *); (try unfold Free at *); (try unfold Taken at *); (try unfold Due at *); (try unfold Who at *); (try unfold What at *); (try unfold Kin at *); omega), fun _ => rfl⟩ | exact ⟨fun h => absurd h (by decide), fun h => by ((try unfold Stands at *); (try unfold Free at *); (try unfold Taken at *); (try unfold Due at *); (try unfold Who at *); (try unfold What at *); (try unfold Kin at *); omega)⟩), hN0_0.ext.trans hE10_5⟩
              | exact ⟨_, rfl, (by first | exact ⟨fun _ => by ((try unfold Stands at *); (try unfold Free at *); (try unfold Taken at *); (try unfold Due at *); (try unfold Who at *); (try unfold What at *); (try unfold Kin at *); omega), fun _ => rfl⟩ | exact ⟨fun h => absurd h (by decide), fun h => by ((try unfold Stands at *); (try unfold Free at *); (try unfold Taken at *); (try unfold Due at *); (try unfold Who at *); (try unfold What at *); (try unfold Kin at *); omega)⟩), hN0_0.ext.trans hE12_8⟩
          · skip
            replace hdu := hdu.1 rfl
            refine xl_pure rfl rfl rfl (pv_move (v := .bool _) rfl rfl) ?_
            refine xl_pure rfl rfl rfl (pv_move (v := .bool _) rfl rfl) ?_
            cases fr
            · skip
              replace hfr := mt hfr.2 (by decide)
              refine xl_pure rfl rfl rfl (pv_pick_t (v := .bool _) rfl rfl rfl) ?_
              refine xl_pure rfl rfl rfl (pv_assign (v := .bool _) rfl rfl) ?_
              refine xl_nil ?_
              refine xthen_normal ?_
              refine xc_ret ?_
              refine xblock_ret ?_
              refine xthen_ret ?_
              refine fin_ret (res1 (v := .bool _) rfl rfl) ?_
              first
                | exact ⟨_, rfl, (by first | exact ⟨fun _ => by ((try unfold Stands at *); (try unfold Free at *); (try unfold Taken at *); (try unfold Due at *); (try unfold Who at *); (try unfold What at *); (try unfold Kin at *); omega), fun _ => rfl⟩ | exact ⟨fun h => absurd h (by decide), fun h => by ((try unfold Stands at *); (try unfold Free at *); (try unfold Taken at *); (try unfold Due at *); (try unfold Who at *); (try unfold What at *); (try unfold Kin at *); omega)⟩), hN0_0.ext⟩
                | exact ⟨_, rfl, (by first | exact ⟨fun _ => by ((try unfold Stands at *); (try unfold Free at *); (try unfold Taken at *); (try unfold Due at *); (try unfold Who at *); (try unfold What at *); (try unfold Kin at *); omega), fun _ => rfl⟩ | exact ⟨fun h => absurd h (by decide), fun h => by ((try unfold Stands at *); (try unfold Free at *); (try unfold Taken at *); (try unfold Due at *); (try unfold Who at *); (try unfold What at *); (try unfold Kin at *); omega)⟩), hN0_0.ext.trans hE8_6⟩
                | exact ⟨_, rfl, (by first | exact ⟨fun _ => by ((try unfold Stands at *); (try unfold Free at *); (try unfold Taken at *); (try unfold Due at *); (try unfold Who at *); (try unfold What at *); (try unfold Kin at *); omega), fun _ => rfl⟩ | exact ⟨fun h => absurd h (by decide), fun h => by ((try unfold Stands at *); (try unfold Free at *); (try unfold Taken at *); (try unfold Due at *); (try unfold Who at *); (try unfold What at *); (try unfold Kin at *); omega)⟩), hN0_0.ext.trans hE10_5⟩
                | exact ⟨_, rfl, (by first | exact ⟨fun _ => by ((try unfold Stands at *); (try unfold Free at *); (try unfold Taken at *); (try unfold Due at *); (try unfold Who at *); (try unfold What at *); (try unfold Kin at *); omega), fun _ => rfl⟩ | exact ⟨fun h => absurd h (by decide), fun h => by ((try unfold Stands at *); (try unfold Free at *); (try unfold Taken at *); (try unfold Due at *); (try unfold Who at *); (try unfold What at *); (try unfold Kin at *); omega)⟩), hN0_0.ext.trans hE12_8⟩
            · skip
              replace hfr := hfr.1 rfl
              refine xl_pure rfl rfl rfl (pv_pick_t (v := .bool _) rfl rfl rfl) ?_
              refine xl_pure rfl rfl rfl (pv_assign (v := .bool _) rfl rfl) ?_
              refine xl_nil ?_
              refine xthen_normal ?_
              refine xc_ret ?_
              refine xblock_ret ?_
              refine xthen_ret ?_
              refine fin_ret (res1 (v := .bool _) rfl rfl) ?_
              first
                | exact ⟨_, rfl, (by first | exact ⟨fun _ => by ((try unfold Stands at *); (try unfold Free at *); (try unfold Taken at *); (try unfold Due at *); (try unfold Who at *); (try unfold What at *); (try unfold Kin at *); omega), fun _ => rfl⟩ | exact ⟨fun h => absurd h (by decide), fun h => by ((try unfold Stands at *); (try unfold Free at *); (try unfold Taken at *); (try unfold Due at *); (try unfold Who at *); (try unfold What at *); (try unfold Kin at *); omega)⟩), hN0_0.ext⟩
                | exact ⟨_, rfl, (by first | exact ⟨fun _ => by ((try unfold Stands at *); (try unfold Free at *); (try unfold Taken at *); (try unfold Due at *); (try unfold Who at *); (try unfold What at *); (try unfold Kin at *); omega), fun _ => rfl⟩ | exact ⟨fun h => absurd h (by decide), fun h => by ((try unfold Stands at *); (try unfold Free at *); (try unfold Taken at *); (try unfold Due at *); (try unfold Who at *); (try unfold What at *); (try unfold Kin at *); omega)⟩), hN0_0.ext.trans hE8_6⟩
                | exact ⟨_, rfl, (by first | exact ⟨fun _ => by ((try unfold Stands at *); (try unfold Free at *); (try unfold Taken at *); (try unfold Due at *); (try unfold Who at *); (try unfold What at *); (try unfold Kin at *); omega), fun _ => rfl⟩ | exact ⟨fun h => absurd h (by decide), fun h => by ((try unfold Stands at *); (try unfold Free at *); (try unfold Taken at *); (try unfold Due at *); (try unfold Who at *); (try unfold What at *); (try unfold Kin at *); omega)⟩), hN0_0.ext.trans hE10_5⟩
                | exact ⟨_, rfl, (by first | exact ⟨fun _ => by ((try unfold Stands at *); (try unfold Free at *); (try unfold Taken at *); (try unfold Due at *); (try unfold Who at *); (try unfold What at *); (try unfold Kin at *); omega), fun _ => rfl⟩ | exact ⟨fun h => absurd h (by decide), fun h => by ((try unfold Stands at *); (try unfold Free at *); (try unfold Taken at *); (try unfold Due at *); (try unfold Who at *); (try unfold What at *); (try unfold Kin at *); omega)⟩), hN0_0.ext.trans hE12_8⟩
        · skip
          refine xl_pure rfl rfl rfl (pv_assign (v := .bool _) rfl rfl) ?_
          refine xl_nil ?_
          refine xthen_normal ?_
          refine xc_cond_f rfl ?_
          refine xc_seq ?_
          refine xc_region ?_
          refine xl_dec rfl rfl rfl (pv_eql rfl rfl rfl) (fun h7_0 => ?_) (fun h7_0 => ?_)
          · skip
            refine xl_pure rfl rfl rfl (pv_assign (v := .bool _) rfl rfl) ?_
            refine xl_nil ?_
            refine xthen_normal ?_
            refine xc_cond_t rfl ?_
            refine xc_seq ?_
            refine xc_region ?_
            refine xl_pure rfl rfl rfl (pv_move (v := .bool _) rfl rfl) ?_
            cases co
            · skip
              replace hco := mt hco.2 (by decide)
              refine xl_pure rfl rfl rfl (pv_move (v := .bool _) rfl rfl) ?_
              refine xl_skip rfl rfl rfl ?_
              refine xl_pure rfl rfl rfl (pv_pick_f (v := .bool _) rfl rfl rfl) ?_
              refine xl_pure rfl rfl rfl (pv_move (v := .bool _) rfl rfl) ?_
              refine xl_skip rfl rfl rfl ?_
              refine xl_skip rfl rfl rfl ?_
              refine xl_pure rfl rfl rfl (pv_pick_f (v := .bool _) rfl rfl rfl) ?_
              refine xl_pure rfl rfl rfl (pv_assign (v := .bool _) rfl rfl) ?_
              refine xl_nil ?_
              refine xthen_normal ?_
              refine xc_ret ?_
              refine xblock_ret ?_
              refine xthen_ret ?_
              refine fin_ret (res1 (v := .bool _) rfl rfl) ?_
              first
                | exact ⟨_, rfl, (by first | exact ⟨fun _ => by ((try unfold Stands at *); (try unfold Free at *); (try unfold Taken at *); (try unfold Due at *); (try unfold Who at *); (try unfold What at *); (try unfold Kin at *); omega), fun _ => rfl⟩ | exact ⟨fun h => absurd h (by decide), fun h => by ((try unfold Stands at *); (try unfold Free at *); (try unfold Taken at *); (try unfold Due at *); (try unfold Who at *); (try unfold What at *); (try unfold Kin at *); omega)⟩), hN0_0.ext⟩
                | exact ⟨_, rfl, (by first | exact ⟨fun _ => by ((try unfold Stands at *); (try unfold Free at *); (try unfold Taken at *); (try unfold Due at *); (try unfold Who at *); (try unfold What at *); (try unfold Kin at *); omega), fun _ => rfl⟩ | exact ⟨fun h => absurd h (by decide), fun h => by ((try unfold Stands at *); (try unfold Free at *); (try unfold Taken at *); (try unfold Due at *); (try unfold Who at *); (try unfold What at *); (try unfold Kin at *); omega)⟩), hN0_0.ext.trans hE8_6⟩
                | exact ⟨_, rfl, (by first | exact ⟨fun _ => by ((try unfold Stands at *); (try unfold Free at *); (try unfold Taken at *); (try unfold Due at *); (try unfold Who at *); (try unfold What at *); (try unfold Kin at *); omega), fun _ => rfl⟩ | exact ⟨fun h => absurd h (by decide), fun h => by ((try unfold Stands at *); (try unfold Free at *); (try unfold Taken at *); (try unfold Due at *); (try unfold Who at *); (try unfold What at *); (try unfold Kin at *); omega)⟩), hN0_0.ext.trans hE10_5⟩
                | exact ⟨_, rfl, (by first | exact ⟨fun _ => by ((try unfold Stands at *); (try unfold Free at *); (try unfold Taken at *); (try unfold Due at *); (try unfold Who at *); (try unfold What at *); (try unfold Kin at *); omega), fun _ => rfl⟩ | exact ⟨fun h => absurd h (by decide), fun h => by ((try unfold Stands at *); (try unfold Free at *); (try unfold Taken at *); (try unfold Due at *); (try unfold Who at *); (try unfold What at *); (try unfold Kin at *); omega)⟩), hN0_0.ext.trans hE12_8⟩
            · skip
              replace hco := hco.1 rfl
              refine xl_pure rfl rfl rfl (pv_move (v := .bool _) rfl rfl) ?_
              refine xl_pure rfl rfl rfl (pv_move (v := .bool _) rfl rfl) ?_
              cases du
              · skip
                replace hdu := mt hdu.2 (by decide)
                refine xl_pure rfl rfl rfl (pv_pick_t (v := .bool _) rfl rfl rfl) ?_
                refine xl_pure rfl rfl rfl (pv_move (v := .bool _) rfl rfl) ?_
                refine xl_skip rfl rfl rfl ?_
                refine xl_skip rfl rfl rfl ?_
                refine xl_pure rfl rfl rfl (pv_pick_f (v := .bool _) rfl rfl rfl) ?_
                refine xl_pure rfl rfl rfl (pv_assign (v := .bool _) rfl rfl) ?_
                refine xl_nil ?_
                refine xthen_normal ?_
                refine xc_ret ?_
                refine xblock_ret ?_
                refine xthen_ret ?_
                refine fin_ret (res1 (v := .bool _) rfl rfl) ?_
                first
                  | exact ⟨_, rfl, (by first | exact ⟨fun _ => by ((try unfold Stands at *); (try unfold Free at *); (try unfold Taken at *); (try unfold Due at *); (try unfold Who at *); (try unfold What at *); (try unfold Kin at *); omega), fun _ => rfl⟩ | exact ⟨fun h => absurd h (by decide), fun h => by ((try unfold Stands at *); (try unfold Free at *); (try unfold Taken at *); (try unfold Due at *); (try unfold Who at *); (try unfold What at *); (try unfold Kin at *); omega)⟩), hN0_0.ext⟩
                  | exact ⟨_, rfl, (by first | exact ⟨fun _ => by ((try unfold Stands at *); (try unfold Free at *); (try unfold Taken at *); (try unfold Due at *); (try unfold Who at *); (try unfold What at *); (try unfold Kin at *); omega), fun _ => rfl⟩ | exact ⟨fun h => absurd h (by decide), fun h => by ((try unfold Stands at *); (try unfold Free at *); (try unfold Taken at *); (try unfold Due at *); (try unfold Who at *); (try unfold What at *); (try unfold Kin at *); omega)⟩), hN0_0.ext.trans hE8_6⟩
                  | exact ⟨_, rfl, (by first | exact ⟨fun _ => by ((try unfold Stands at *); (try unfold Free at *); (try unfold Taken at *); (try unfold Due at *); (try unfold Who at *); (try unfold What at *); (try unfold Kin at *); omega), fun _ => rfl⟩ | exact ⟨fun h => absurd h (by decide), fun h => by ((try unfold Stands at *); (try unfold Free at *); (try unfold Taken at *); (try unfold Due at *); (try unfold Who at *); (try unfold What at *); (try unfold Kin at *); omega)⟩), hN0_0.ext.trans hE10_5⟩
                  | exact ⟨_, rfl, (by first | exact ⟨fun _ => by ((try unfold Stands at *); (try unfold Free at *); (try unfold Taken at *); (try unfold Due at *); (try unfold Who at *); (try unfold What at *); (try unfold Kin at *); omega), fun _ => rfl⟩ | exact ⟨fun h => absurd h (by decide), fun h => by ((try unfold Stands at *); (try unfold Free at *); (try unfold Taken at *); (try unfold Due at *); (try unfold Who at *); (try unfold What at *); (try unfold Kin at *); omega)⟩), hN0_0.ext.trans hE12_8⟩
              · skip
                replace hdu := hdu.1 rfl
                refine xl_pure rfl rfl rfl (pv_pick_t (v := .bool _) rfl rfl rfl) ?_
                refine xl_pure rfl rfl rfl (pv_move (v := .bool _) rfl rfl) ?_
                refine xl_light rfl rfl rfl (lv_load (v := .agg _) rfl rfl (by first | exact ld_blk hN0_0.blk rfl | exact ld_blk_a hN0_0.blk rfl rfl)) ?_
                refine xl_heavy rfl rfl rfl (hv_call (g := 55) rfl rfl (c55 d a b c e) rfl) ?_
                rintro v8_6 H8_6 ⟨r8_6, rfl, hb8_6, hE8_6⟩
                cases r8_6
                · skip
                  replace hb8_6 := mt hb8_6.2 (by decide)
                  refine xl_pure rfl rfl rfl (pv_pick_t (v := .bool _) rfl rfl rfl) ?_
                  refine xl_pure rfl rfl rfl (pv_assign (v := .bool _) rfl rfl) ?_
                  refine xl_nil ?_
                  refine xthen_normal ?_
                  refine xc_ret ?_
                  refine xblock_ret ?_
                  refine xthen_ret ?_
                  refine fin_ret (res1 (v := .bool _) rfl rfl) ?_
                  first
                    | exact ⟨_, rfl, (by first | exact ⟨fun _ => by ((try unfold Stands at *); (try unfold Free at *); (try unfold Taken at *); (try unfold Due at *); (try unfold Who at *); (try unfold What at *); (try unfold Kin at *); omega), fun _ => rfl⟩ | exact ⟨fun h => absurd h (by decide), fun h => by ((try unfold Stands at *); (try unfold Free at *); (try unfold Taken at *); (try unfold Due at *); (try unfold Who at *); (try unfold What at *); (try unfold Kin at *); omega)⟩), hN0_0.ext⟩
                    | exact ⟨_, rfl, (by first | exact ⟨fun _ => by ((try unfold Stands at *); (try unfold Free at *); (try unfold Taken at *); (try unfold Due at *); (try unfold Who at *); (try unfold What at *); (try unfold Kin at *); omega), fun _ => rfl⟩ | exact ⟨fun h => absurd h (by decide), fun h => by ((try unfold Stands at *); (try unfold Free at *); (try unfold Taken at *); (try unfold Due at *); (try unfold Who at *); (try unfold What at *); (try unfold Kin at *); omega)⟩), hN0_0.ext.trans hE8_6⟩
                    | exact ⟨_, rfl, (by first | exact ⟨fun _ => by ((try unfold Stands at *); (try unfold Free at *); (try unfold Taken at *); (try unfold Due at *); (try unfold Who at *); (try unfold What at *); (try unfold Kin at *); omega), fun _ => rfl⟩ | exact ⟨fun h => absurd h (by decide), fun h => by ((try unfold Stands at *); (try unfold Free at *); (try unfold Taken at *); (try unfold Due at *); (try unfold Who at *); (try unfold What at *); (try unfold Kin at *); omega)⟩), hN0_0.ext.trans hE10_5⟩
                    | exact ⟨_, rfl, (by first | exact ⟨fun _ => by ((try unfold Stands at *); (try unfold Free at *); (try unfold Taken at *); (try unfold Due at *); (try unfold Who at *); (try unfold What at *); (try unfold Kin at *); omega), fun _ => rfl⟩ | exact ⟨fun h => absurd h (by decide), fun h => by ((try unfold Stands at *); (try unfold Free at *); (try unfold Taken at *); (try unfold Due at *); (try unfold Who at *); (try unfold What at *); (try unfold Kin at *); omega)⟩), hN0_0.ext.trans hE12_8⟩
                · skip
                  replace hb8_6 := hb8_6.1 rfl
                  refine xl_pure rfl rfl rfl (pv_pick_t (v := .bool _) rfl rfl rfl) ?_
                  refine xl_pure rfl rfl rfl (pv_assign (v := .bool _) rfl rfl) ?_
                  refine xl_nil ?_
                  refine xthen_normal ?_
                  refine xc_ret ?_
                  refine xblock_ret ?_
                  refine xthen_ret ?_
                  refine fin_ret (res1 (v := .bool _) rfl rfl) ?_
                  first
                    | exact ⟨_, rfl, (by first | exact ⟨fun _ => by ((try unfold Stands at *); (try unfold Free at *); (try unfold Taken at *); (try unfold Due at *); (try unfold Who at *); (try unfold What at *); (try unfold Kin at *); omega), fun _ => rfl⟩ | exact ⟨fun h => absurd h (by decide), fun h => by ((try unfold Stands at *); (try unfold Free at *); (try unfold Taken at *); (try unfold Due at *); (try unfold Who at *); (try unfold What at *); (try unfold Kin at *); omega)⟩), hN0_0.ext⟩
                    | exact ⟨_, rfl, (by first | exact ⟨fun _ => by ((try unfold Stands at *); (try unfold Free at *); (try unfold Taken at *); (try unfold Due at *); (try unfold Who at *); (try unfold What at *); (try unfold Kin at *); omega), fun _ => rfl⟩ | exact ⟨fun h => absurd h (by decide), fun h => by ((try unfold Stands at *); (try unfold Free at *); (try unfold Taken at *); (try unfold Due at *); (try unfold Who at *); (try unfold What at *); (try unfold Kin at *); omega)⟩), hN0_0.ext.trans hE8_6⟩
                    | exact ⟨_, rfl, (by first | exact ⟨fun _ => by ((try unfold Stands at *); (try unfold Free at *); (try unfold Taken at *); (try unfold Due at *); (try unfold Who at *); (try unfold What at *); (try unfold Kin at *); omega), fun _ => rfl⟩ | exact ⟨fun h => absurd h (by decide), fun h => by ((try unfold Stands at *); (try unfold Free at *); (try unfold Taken at *); (try unfold Due at *); (try unfold Who at *); (try unfold What at *); (try unfold Kin at *); omega)⟩), hN0_0.ext.trans hE10_5⟩
                    | exact ⟨_, rfl, (by first | exact ⟨fun _ => by ((try unfold Stands at *); (try unfold Free at *); (try unfold Taken at *); (try unfold Due at *); (try unfold Who at *); (try unfold What at *); (try unfold Kin at *); omega), fun _ => rfl⟩ | exact ⟨fun h => absurd h (by decide), fun h => by ((try unfold Stands at *); (try unfold Free at *); (try unfold Taken at *); (try unfold Due at *); (try unfold Who at *); (try unfold What at *); (try unfold Kin at *); omega)⟩), hN0_0.ext.trans hE12_8⟩
          · skip
            refine xl_pure rfl rfl rfl (pv_assign (v := .bool _) rfl rfl) ?_
            refine xl_nil ?_
            refine xthen_normal ?_
            refine xc_cond_f rfl ?_
            refine xc_seq ?_
            refine xc_region ?_
            refine xl_dec rfl rfl rfl (pv_eql rfl rfl rfl) (fun h9_0 => ?_) (fun h9_0 => ?_)
            · skip
              refine xl_pure rfl rfl rfl (pv_assign (v := .bool _) rfl rfl) ?_
              refine xl_nil ?_
              refine xthen_normal ?_
              refine xc_cond_t rfl ?_
              refine xc_seq ?_
              refine xc_region ?_
              refine xl_pure rfl rfl rfl (pv_fieldAddr rfl rfl) ?_
              refine xl_light rfl rfl rfl (lv_load (v := .int _ _) rfl rfl (by first | exact ld_blk hN0_0.blk rfl | exact ld_blk_a hN0_0.blk rfl rfl)) ?_
              refine xl_dec rfl rfl rfl (pv_eql rfl rfl rfl) (fun h10_2 => ?_) (fun h10_2 => ?_)
              · skip
                refine xl_pure rfl rfl rfl (pv_move (v := .bool _) rfl rfl) ?_
                refine xl_light rfl rfl rfl (lv_load (v := .agg _) rfl rfl (by first | exact ld_blk hN0_0.blk rfl | exact ld_blk_a hN0_0.blk rfl rfl)) ?_
                refine xl_heavy rfl rfl rfl (hv_call (g := 55) rfl rfl (c55 d a b c e) rfl) ?_
                rintro v10_5 H10_5 ⟨r10_5, rfl, hb10_5, hE10_5⟩
                cases r10_5
                · skip
                  replace hb10_5 := mt hb10_5.2 (by decide)
                  refine xl_pure rfl rfl rfl (pv_pick_t (v := .bool _) rfl rfl rfl) ?_
                  refine xl_pure rfl rfl rfl (pv_assign (v := .bool _) rfl rfl) ?_
                  refine xl_nil ?_
                  refine xthen_normal ?_
                  refine xc_ret ?_
                  refine xblock_ret ?_
                  refine xthen_ret ?_
                  refine fin_ret (res1 (v := .bool _) rfl rfl) ?_
                  first
                    | exact ⟨_, rfl, (by first | exact ⟨fun _ => by ((try unfold Stands at *); (try unfold Free at *); (try unfold Taken at *); (try unfold Due at *); (try unfold Who at *); (try unfold What at *); (try unfold Kin at *); omega), fun _ => rfl⟩ | exact ⟨fun h => absurd h (by decide), fun h => by ((try unfold Stands at *); (try unfold Free at *); (try unfold Taken at *); (try unfold Due at *); (try unfold Who at *); (try unfold What at *); (try unfold Kin at *); omega)⟩), hN0_0.ext⟩
                    | exact ⟨_, rfl, (by first | exact ⟨fun _ => by ((try unfold Stands at *); (try unfold Free at *); (try unfold Taken at *); (try unfold Due at *); (try unfold Who at *); (try unfold What at *); (try unfold Kin at *); omega), fun _ => rfl⟩ | exact ⟨fun h => absurd h (by decide), fun h => by ((try unfold Stands at *); (try unfold Free at *); (try unfold Taken at *); (try unfold Due at *); (try unfold Who at *); (try unfold What at *); (try unfold Kin at *); omega)⟩), hN0_0.ext.trans hE8_6⟩
                    | exact ⟨_, rfl, (by first | exact ⟨fun _ => by ((try unfold Stands at *); (try unfold Free at *); (try unfold Taken at *); (try unfold Due at *); (try unfold Who at *); (try unfold What at *); (try unfold Kin at *); omega), fun _ => rfl⟩ | exact ⟨fun h => absurd h (by decide), fun h => by ((try unfold Stands at *); (try unfold Free at *); (try unfold Taken at *); (try unfold Due at *); (try unfold Who at *); (try unfold What at *); (try unfold Kin at *); omega)⟩), hN0_0.ext.trans hE10_5⟩
                    | exact ⟨_, rfl, (by first | exact ⟨fun _ => by ((try unfold Stands at *); (try unfold Free at *); (try unfold Taken at *); (try unfold Due at *); (try unfold Who at *); (try unfold What at *); (try unfold Kin at *); omega), fun _ => rfl⟩ | exact ⟨fun h => absurd h (by decide), fun h => by ((try unfold Stands at *); (try unfold Free at *); (try unfold Taken at *); (try unfold Due at *); (try unfold Who at *); (try unfold What at *); (try unfold Kin at *); omega)⟩), hN0_0.ext.trans hE12_8⟩
                · skip
                  replace hb10_5 := hb10_5.1 rfl
                  refine xl_pure rfl rfl rfl (pv_pick_t (v := .bool _) rfl rfl rfl) ?_
                  refine xl_pure rfl rfl rfl (pv_assign (v := .bool _) rfl rfl) ?_
                  refine xl_nil ?_
                  refine xthen_normal ?_
                  refine xc_ret ?_
                  refine xblock_ret ?_
                  refine xthen_ret ?_
                  refine fin_ret (res1 (v := .bool _) rfl rfl) ?_
                  first
                    | exact ⟨_, rfl, (by first | exact ⟨fun _ => by ((try unfold Stands at *); (try unfold Free at *); (try unfold Taken at *); (try unfold Due at *); (try unfold Who at *); (try unfold What at *); (try unfold Kin at *); omega), fun _ => rfl⟩ | exact ⟨fun h => absurd h (by decide), fun h => by ((try unfold Stands at *); (try unfold Free at *); (try unfold Taken at *); (try unfold Due at *); (try unfold Who at *); (try unfold What at *); (try unfold Kin at *); omega)⟩), hN0_0.ext⟩
                    | exact ⟨_, rfl, (by first | exact ⟨fun _ => by ((try unfold Stands at *); (try unfold Free at *); (try unfold Taken at *); (try unfold Due at *); (try unfold Who at *); (try unfold What at *); (try unfold Kin at *); omega), fun _ => rfl⟩ | exact ⟨fun h => absurd h (by decide), fun h => by ((try unfold Stands at *); (try unfold Free at *); (try unfold Taken at *); (try unfold Due at *); (try unfold Who at *); (try unfold What at *); (try unfold Kin at *); omega)⟩), hN0_0.ext.trans hE8_6⟩
                    | exact ⟨_, rfl, (by first | exact ⟨fun _ => by ((try unfold Stands at *); (try unfold Free at *); (try unfold Taken at *); (try unfold Due at *); (try unfold Who at *); (try unfold What at *); (try unfold Kin at *); omega), fun _ => rfl⟩ | exact ⟨fun h => absurd h (by decide), fun h => by ((try unfold Stands at *); (try unfold Free at *); (try unfold Taken at *); (try unfold Due at *); (try unfold Who at *); (try unfold What at *); (try unfold Kin at *); omega)⟩), hN0_0.ext.trans hE10_5⟩
                    | exact ⟨_, rfl, (by first | exact ⟨fun _ => by ((try unfold Stands at *); (try unfold Free at *); (try unfold Taken at *); (try unfold Due at *); (try unfold Who at *); (try unfold What at *); (try unfold Kin at *); omega), fun _ => rfl⟩ | exact ⟨fun h => absurd h (by decide), fun h => by ((try unfold Stands at *); (try unfold Free at *); (try unfold Taken at *); (try unfold Due at *); (try unfold Who at *); (try unfold What at *); (try unfold Kin at *); omega)⟩), hN0_0.ext.trans hE12_8⟩
              · skip
                refine xl_pure rfl rfl rfl (pv_move (v := .bool _) rfl rfl) ?_
                refine xl_skip rfl rfl rfl ?_
                refine xl_skip rfl rfl rfl ?_
                refine xl_pure rfl rfl rfl (pv_pick_f (v := .bool _) rfl rfl rfl) ?_
                refine xl_pure rfl rfl rfl (pv_assign (v := .bool _) rfl rfl) ?_
                refine xl_nil ?_
                refine xthen_normal ?_
                refine xc_ret ?_
                refine xblock_ret ?_
                refine xthen_ret ?_
                refine fin_ret (res1 (v := .bool _) rfl rfl) ?_
                first
                  | exact ⟨_, rfl, (by first | exact ⟨fun _ => by ((try unfold Stands at *); (try unfold Free at *); (try unfold Taken at *); (try unfold Due at *); (try unfold Who at *); (try unfold What at *); (try unfold Kin at *); omega), fun _ => rfl⟩ | exact ⟨fun h => absurd h (by decide), fun h => by ((try unfold Stands at *); (try unfold Free at *); (try unfold Taken at *); (try unfold Due at *); (try unfold Who at *); (try unfold What at *); (try unfold Kin at *); omega)⟩), hN0_0.ext⟩
                  | exact ⟨_, rfl, (by first | exact ⟨fun _ => by ((try unfold Stands at *); (try unfold Free at *); (try unfold Taken at *); (try unfold Due at *); (try unfold Who at *); (try unfold What at *); (try unfold Kin at *); omega), fun _ => rfl⟩ | exact ⟨fun h => absurd h (by decide), fun h => by ((try unfold Stands at *); (try unfold Free at *); (try unfold Taken at *); (try unfold Due at *); (try unfold Who at *); (try unfold What at *); (try unfold Kin at *); omega)⟩), hN0_0.ext.trans hE8_6⟩
                  | exact ⟨_, rfl, (by first | exact ⟨fun _ => by ((try unfold Stands at *); (try unfold Free at *); (try unfold Taken at *); (try unfold Due at *); (try unfold Who at *); (try unfold What at *); (try unfold Kin at *); omega), fun _ => rfl⟩ | exact ⟨fun h => absurd h (by decide), fun h => by ((try unfold Stands at *); (try unfold Free at *); (try unfold Taken at *); (try unfold Due at *); (try unfold Who at *); (try unfold What at *); (try unfold Kin at *); omega)⟩), hN0_0.ext.trans hE10_5⟩
                  | exact ⟨_, rfl, (by first | exact ⟨fun _ => by ((try unfold Stands at *); (try unfold Free at *); (try unfold Taken at *); (try unfold Due at *); (try unfold Who at *); (try unfold What at *); (try unfold Kin at *); omega), fun _ => rfl⟩ | exact ⟨fun h => absurd h (by decide), fun h => by ((try unfold Stands at *); (try unfold Free at *); (try unfold Taken at *); (try unfold Due at *); (try unfold Who at *); (try unfold What at *); (try unfold Kin at *); omega)⟩), hN0_0.ext.trans hE12_8⟩
            · skip
              refine xl_pure rfl rfl rfl (pv_assign (v := .bool _) rfl rfl) ?_
              refine xl_nil ?_
              refine xthen_normal ?_
              refine xc_cond_f rfl ?_
              refine xc_seq ?_
              refine xc_region ?_
              refine xl_dec rfl rfl rfl (pv_eql rfl rfl rfl) (fun h11_0 => ?_) (fun h11_0 => ?_)
              · skip
                refine xl_pure rfl rfl rfl (pv_assign (v := .bool _) rfl rfl) ?_
                refine xl_nil ?_
                refine xthen_normal ?_
                refine xc_cond_t rfl ?_
                refine xc_seq ?_
                refine xc_region ?_
                refine xl_pure rfl rfl rfl (pv_move (v := .bool _) rfl rfl) ?_
                cases co
                · skip
                  replace hco := mt hco.2 (by decide)
                  refine xl_pure rfl rfl rfl (pv_move (v := .bool _) rfl rfl) ?_
                  refine xl_skip rfl rfl rfl ?_
                  refine xl_skip rfl rfl rfl ?_
                  refine xl_skip rfl rfl rfl ?_
                  refine xl_pure rfl rfl rfl (pv_pick_f (v := .bool _) rfl rfl rfl) ?_
                  refine xl_pure rfl rfl rfl (pv_move (v := .bool _) rfl rfl) ?_
                  refine xl_skip rfl rfl rfl ?_
                  refine xl_skip rfl rfl rfl ?_
                  refine xl_pure rfl rfl rfl (pv_pick_f (v := .bool _) rfl rfl rfl) ?_
                  refine xl_pure rfl rfl rfl (pv_assign (v := .bool _) rfl rfl) ?_
                  refine xl_nil ?_
                  refine xthen_normal ?_
                  refine xc_ret ?_
                  refine xblock_ret ?_
                  refine xthen_ret ?_
                  refine fin_ret (res1 (v := .bool _) rfl rfl) ?_
                  first
                    | exact ⟨_, rfl, (by first | exact ⟨fun _ => by ((try unfold Stands at *); (try unfold Free at *); (try unfold Taken at *); (try unfold Due at *); (try unfold Who at *); (try unfold What at *); (try unfold Kin at *); omega), fun _ => rfl⟩ | exact ⟨fun h => absurd h (by decide), fun h => by ((try unfold Stands at *); (try unfold Free at *); (try unfold Taken at *); (try unfold Due at *); (try unfold Who at *); (try unfold What at *); (try unfold Kin at *); omega)⟩), hN0_0.ext⟩
                    | exact ⟨_, rfl, (by first | exact ⟨fun _ => by ((try unfold Stands at *); (try unfold Free at *); (try unfold Taken at *); (try unfold Due at *); (try unfold Who at *); (try unfold What at *); (try unfold Kin at *); omega), fun _ => rfl⟩ | exact ⟨fun h => absurd h (by decide), fun h => by ((try unfold Stands at *); (try unfold Free at *); (try unfold Taken at *); (try unfold Due at *); (try unfold Who at *); (try unfold What at *); (try unfold Kin at *); omega)⟩), hN0_0.ext.trans hE8_6⟩
                    | exact ⟨_, rfl, (by first | exact ⟨fun _ => by ((try unfold Stands at *); (try unfold Free at *); (try unfold Taken at *); (try unfold Due at *); (try unfold Who at *); (try unfold What at *); (try unfold Kin at *); omega), fun _ => rfl⟩ | exact ⟨fun h => absurd h (by decide), fun h => by ((try unfold Stands at *); (try unfold Free at *); (try unfold Taken at *); (try unfold Due at *); (try unfold Who at *); (try unfold What at *); (try unfold Kin at *); omega)⟩), hN0_0.ext.trans hE10_5⟩
                    | exact ⟨_, rfl, (by first | exact ⟨fun _ => by ((try unfold Stands at *); (try unfold Free at *); (try unfold Taken at *); (try unfold Due at *); (try unfold Who at *); (try unfold What at *); (try unfold Kin at *); omega), fun _ => rfl⟩ | exact ⟨fun h => absurd h (by decide), fun h => by ((try unfold Stands at *); (try unfold Free at *); (try unfold Taken at *); (try unfold Due at *); (try unfold Who at *); (try unfold What at *); (try unfold Kin at *); omega)⟩), hN0_0.ext.trans hE12_8⟩
                · skip
                  replace hco := hco.1 rfl
                  refine xl_pure rfl rfl rfl (pv_move (v := .bool _) rfl rfl) ?_
                  refine xl_pure rfl rfl rfl (pv_fieldAddr rfl rfl) ?_
                  refine xl_light rfl rfl rfl (lv_load (v := .int _ _) rfl rfl (by first | exact ld_blk hN0_0.blk rfl | exact ld_blk_a hN0_0.blk rfl rfl)) ?_
                  refine xl_dec rfl rfl rfl (pv_eql rfl rfl rfl) (fun h12_4 => ?_) (fun h12_4 => ?_)
                  · skip
                    refine xl_pure rfl rfl rfl (pv_pick_t (v := .bool _) rfl rfl rfl) ?_
                    refine xl_pure rfl rfl rfl (pv_move (v := .bool _) rfl rfl) ?_
                    refine xl_light rfl rfl rfl (lv_load (v := .agg _) rfl rfl (by first | exact ld_blk hN0_0.blk rfl | exact ld_blk_a hN0_0.blk rfl rfl)) ?_
                    refine xl_heavy rfl rfl rfl (hv_call (g := 55) rfl rfl (c55 d a b c e) rfl) ?_
                    rintro v12_8 H12_8 ⟨r12_8, rfl, hb12_8, hE12_8⟩
                    cases r12_8
                    · skip
                      replace hb12_8 := mt hb12_8.2 (by decide)
                      refine xl_pure rfl rfl rfl (pv_pick_t (v := .bool _) rfl rfl rfl) ?_
                      refine xl_pure rfl rfl rfl (pv_assign (v := .bool _) rfl rfl) ?_
                      refine xl_nil ?_
                      refine xthen_normal ?_
                      refine xc_ret ?_
                      refine xblock_ret ?_
                      refine xthen_ret ?_
                      refine fin_ret (res1 (v := .bool _) rfl rfl) ?_
                      first
                        | exact ⟨_, rfl, (by first | exact ⟨fun _ => by ((try unfold Stands at *); (try unfold Free at *); (try unfold Taken at *); (try unfold Due at *); (try unfold Who at *); (try unfold What at *); (try unfold Kin at *); omega), fun _ => rfl⟩ | exact ⟨fun h => absurd h (by decide), fun h => by ((try unfold Stands at *); (try unfold Free at *); (try unfold Taken at *); (try unfold Due at *); (try unfold Who at *); (try unfold What at *); (try unfold Kin at *); omega)⟩), hN0_0.ext⟩
                        | exact ⟨_, rfl, (by first | exact ⟨fun _ => by ((try unfold Stands at *); (try unfold Free at *); (try unfold Taken at *); (try unfold Due at *); (try unfold Who at *); (try unfold What at *); (try unfold Kin at *); omega), fun _ => rfl⟩ | exact ⟨fun h => absurd h (by decide), fun h => by ((try unfold Stands at *); (try unfold Free at *); (try unfold Taken at *); (try unfold Due at *); (try unfold Who at *); (try unfold What at *); (try unfold Kin at *); omega)⟩), hN0_0.ext.trans hE8_6⟩
                        | exact ⟨_, rfl, (by first | exact ⟨fun _ => by ((try unfold Stands at *); (try unfold Free at *); (try unfold Taken at *); (try unfold Due at *); (try unfold Who at *); (try unfold What at *); (try unfold Kin at *); omega), fun _ => rfl⟩ | exact ⟨fun h => absurd h (by decide), fun h => by ((try unfold Stands at *); (try unfold Free at *); (try unfold Taken at *); (try unfold Due at *); (try unfold Who at *); (try unfold What at *); (try unfold Kin at *); omega)⟩), hN0_0.ext.trans hE10_5⟩
                        | exact ⟨_, rfl, (by first | exact ⟨fun _ => by ((try unfold Stands at *); (try unfold Free at *); (try unfold Taken at *); (try unfold Due at *); (try unfold Who at *); (try unfold What at *); (try unfold Kin at *); omega), fun _ => rfl⟩ | exact ⟨fun h => absurd h (by decide), fun h => by ((try unfold Stands at *); (try unfold Free at *); (try unfold Taken at *); (try unfold Due at *); (try unfold Who at *); (try unfold What at *); (try unfold Kin at *); omega)⟩), hN0_0.ext.trans hE12_8⟩
                    · skip
                      replace hb12_8 := hb12_8.1 rfl
                      refine xl_pure rfl rfl rfl (pv_pick_t (v := .bool _) rfl rfl rfl) ?_
                      refine xl_pure rfl rfl rfl (pv_assign (v := .bool _) rfl rfl) ?_
                      refine xl_nil ?_
                      refine xthen_normal ?_
                      refine xc_ret ?_
                      refine xblock_ret ?_
                      refine xthen_ret ?_
                      refine fin_ret (res1 (v := .bool _) rfl rfl) ?_
                      first
                        | exact ⟨_, rfl, (by first | exact ⟨fun _ => by ((try unfold Stands at *); (try unfold Free at *); (try unfold Taken at *); (try unfold Due at *); (try unfold Who at *); (try unfold What at *); (try unfold Kin at *); omega), fun _ => rfl⟩ | exact ⟨fun h => absurd h (by decide), fun h => by ((try unfold Stands at *); (try unfold Free at *); (try unfold Taken at *); (try unfold Due at *); (try unfold Who at *); (try unfold What at *); (try unfold Kin at *); omega)⟩), hN0_0.ext⟩
                        | exact ⟨_, rfl, (by first | exact ⟨fun _ => by ((try unfold Stands at *); (try unfold Free at *); (try unfold Taken at *); (try unfold Due at *); (try unfold Who at *); (try unfold What at *); (try unfold Kin at *); omega), fun _ => rfl⟩ | exact ⟨fun h => absurd h (by decide), fun h => by ((try unfold Stands at *); (try unfold Free at *); (try unfold Taken at *); (try unfold Due at *); (try unfold Who at *); (try unfold What at *); (try unfold Kin at *); omega)⟩), hN0_0.ext.trans hE8_6⟩
                        | exact ⟨_, rfl, (by first | exact ⟨fun _ => by ((try unfold Stands at *); (try unfold Free at *); (try unfold Taken at *); (try unfold Due at *); (try unfold Who at *); (try unfold What at *); (try unfold Kin at *); omega), fun _ => rfl⟩ | exact ⟨fun h => absurd h (by decide), fun h => by ((try unfold Stands at *); (try unfold Free at *); (try unfold Taken at *); (try unfold Due at *); (try unfold Who at *); (try unfold What at *); (try unfold Kin at *); omega)⟩), hN0_0.ext.trans hE10_5⟩
                        | exact ⟨_, rfl, (by first | exact ⟨fun _ => by ((try unfold Stands at *); (try unfold Free at *); (try unfold Taken at *); (try unfold Due at *); (try unfold Who at *); (try unfold What at *); (try unfold Kin at *); omega), fun _ => rfl⟩ | exact ⟨fun h => absurd h (by decide), fun h => by ((try unfold Stands at *); (try unfold Free at *); (try unfold Taken at *); (try unfold Due at *); (try unfold Who at *); (try unfold What at *); (try unfold Kin at *); omega)⟩), hN0_0.ext.trans hE12_8⟩
                  · skip
                    refine xl_pure rfl rfl rfl (pv_pick_t (v := .bool _) rfl rfl rfl) ?_
                    refine xl_pure rfl rfl rfl (pv_move (v := .bool _) rfl rfl) ?_
                    refine xl_skip rfl rfl rfl ?_
                    refine xl_skip rfl rfl rfl ?_
                    refine xl_pure rfl rfl rfl (pv_pick_f (v := .bool _) rfl rfl rfl) ?_
                    refine xl_pure rfl rfl rfl (pv_assign (v := .bool _) rfl rfl) ?_
                    refine xl_nil ?_
                    refine xthen_normal ?_
                    refine xc_ret ?_
                    refine xblock_ret ?_
                    refine xthen_ret ?_
                    refine fin_ret (res1 (v := .bool _) rfl rfl) ?_
                    first
                      | exact ⟨_, rfl, (by first | exact ⟨fun _ => by ((try unfold Stands at *); (try unfold Free at *); (try unfold Taken at *); (try unfold Due at *); (try unfold Who at *); (try unfold What at *); (try unfold Kin at *); omega), fun _ => rfl⟩ | exact ⟨fun h => absurd h (by decide), fun h => by ((try unfold Stands at *); (try unfold Free at *); (try unfold Taken at *); (try unfold Due at *); (try unfold Who at *); (try unfold What at *); (try unfold Kin at *); omega)⟩), hN0_0.ext⟩
                      | exact ⟨_, rfl, (by first | exact ⟨fun _ => by ((try unfold Stands at *); (try unfold Free at *); (try unfold Taken at *); (try unfold Due at *); (try unfold Who at *); (try unfold What at *); (try unfold Kin at *); omega), fun _ => rfl⟩ | exact ⟨fun h => absurd h (by decide), fun h => by ((try unfold Stands at *); (try unfold Free at *); (try unfold Taken at *); (try unfold Due at *); (try unfold Who at *); (try unfold What at *); (try unfold Kin at *); omega)⟩), hN0_0.ext.trans hE8_6⟩
                      | exact ⟨_, rfl, (by first | exact ⟨fun _ => by ((try unfold Stands at *); (try unfold Free at *); (try unfold Taken at *); (try unfold Due at *); (try unfold Who at *); (try unfold What at *); (try unfold Kin at *); omega), fun _ => rfl⟩ | exact ⟨fun h => absurd h (by decide), fun h => by ((try unfold Stands at *); (try unfold Free at *); (try unfold Taken at *); (try unfold Due at *); (try unfold Who at *); (try unfold What at *); (try unfold Kin at *); omega)⟩), hN0_0.ext.trans hE10_5⟩
                      | exact ⟨_, rfl, (by first | exact ⟨fun _ => by ((try unfold Stands at *); (try unfold Free at *); (try unfold Taken at *); (try unfold Due at *); (try unfold Who at *); (try unfold What at *); (try unfold Kin at *); omega), fun _ => rfl⟩ | exact ⟨fun h => absurd h (by decide), fun h => by ((try unfold Stands at *); (try unfold Free at *); (try unfold Taken at *); (try unfold Due at *); (try unfold Who at *); (try unfold What at *); (try unfold Kin at *); omega)⟩), hN0_0.ext.trans hE12_8⟩
              · skip
                refine xl_pure rfl rfl rfl (pv_assign (v := .bool _) rfl rfl) ?_
                refine xl_nil ?_
                refine xthen_normal ?_
                refine xc_cond_f rfl ?_
                refine xc_seq ?_
                refine xc_region ?_
                refine xl_dec rfl rfl rfl (pv_eql rfl rfl rfl) (fun h13_0 => ?_) (fun h13_0 => ?_)
                · skip
                  refine xl_pure rfl rfl rfl (pv_assign (v := .bool _) rfl rfl) ?_
                  refine xl_nil ?_
                  refine xthen_normal ?_
                  refine xc_cond_t rfl ?_
                  refine xc_seq ?_
                  refine xc_region ?_
                  refine xl_pure rfl rfl rfl (pv_fieldAddr rfl rfl) ?_
                  refine xl_light rfl rfl rfl (lv_load (v := .int _ _) rfl rfl (by first | exact ld_blk hN0_0.blk rfl | exact ld_blk_a hN0_0.blk rfl rfl)) ?_
                  refine xl_ndec rfl rfl rfl (pv_neq rfl rfl rfl) (fun h14_2 => ?_) (fun h14_2 => ?_)
                  · skip
                    refine xl_pure rfl rfl rfl (pv_move (v := .bool _) rfl rfl) ?_
                    refine xl_skip rfl rfl rfl ?_
                    refine xl_skip rfl rfl rfl ?_
                    refine xl_skip rfl rfl rfl ?_
                    refine xl_pure rfl rfl rfl (pv_pick_f (v := .bool _) rfl rfl rfl) ?_
                    refine xl_pure rfl rfl rfl (pv_move (v := .bool _) rfl rfl) ?_
                    refine xl_skip rfl rfl rfl ?_
                    refine xl_pure rfl rfl rfl (pv_pick_f (v := .bool _) rfl rfl rfl) ?_
                    refine xl_pure rfl rfl rfl (pv_assign (v := .bool _) rfl rfl) ?_
                    refine xl_nil ?_
                    refine xthen_normal ?_
                    refine xc_ret ?_
                    refine xblock_ret ?_
                    refine xthen_ret ?_
                    refine fin_ret (res1 (v := .bool _) rfl rfl) ?_
                    first
                      | exact ⟨_, rfl, (by first | exact ⟨fun _ => by ((try unfold Stands at *); (try unfold Free at *); (try unfold Taken at *); (try unfold Due at *); (try unfold Who at *); (try unfold What at *); (try unfold Kin at *); omega), fun _ => rfl⟩ | exact ⟨fun h => absurd h (by decide), fun h => by ((try unfold Stands at *); (try unfold Free at *); (try unfold Taken at *); (try unfold Due at *); (try unfold Who at *); (try unfold What at *); (try unfold Kin at *); omega)⟩), hN0_0.ext⟩
                      | exact ⟨_, rfl, (by first | exact ⟨fun _ => by ((try unfold Stands at *); (try unfold Free at *); (try unfold Taken at *); (try unfold Due at *); (try unfold Who at *); (try unfold What at *); (try unfold Kin at *); omega), fun _ => rfl⟩ | exact ⟨fun h => absurd h (by decide), fun h => by ((try unfold Stands at *); (try unfold Free at *); (try unfold Taken at *); (try unfold Due at *); (try unfold Who at *); (try unfold What at *); (try unfold Kin at *); omega)⟩), hN0_0.ext.trans hE8_6⟩
                      | exact ⟨_, rfl, (by first | exact ⟨fun _ => by ((try unfold Stands at *); (try unfold Free at *); (try unfold Taken at *); (try unfold Due at *); (try unfold Who at *); (try unfold What at *); (try unfold Kin at *); omega), fun _ => rfl⟩ | exact ⟨fun h => absurd h (by decide), fun h => by ((try unfold Stands at *); (try unfold Free at *); (try unfold Taken at *); (try unfold Due at *); (try unfold Who at *); (try unfold What at *); (try unfold Kin at *); omega)⟩), hN0_0.ext.trans hE10_5⟩
                      | exact ⟨_, rfl, (by first | exact ⟨fun _ => by ((try unfold Stands at *); (try unfold Free at *); (try unfold Taken at *); (try unfold Due at *); (try unfold Who at *); (try unfold What at *); (try unfold Kin at *); omega), fun _ => rfl⟩ | exact ⟨fun h => absurd h (by decide), fun h => by ((try unfold Stands at *); (try unfold Free at *); (try unfold Taken at *); (try unfold Due at *); (try unfold Who at *); (try unfold What at *); (try unfold Kin at *); omega)⟩), hN0_0.ext.trans hE12_8⟩
                  · skip
                    refine xl_pure rfl rfl rfl (pv_move (v := .bool _) rfl rfl) ?_
                    refine xl_pure rfl rfl rfl (pv_fieldAddr rfl rfl) ?_
                    refine xl_light rfl rfl rfl (lv_load (v := .int _ _) rfl rfl (by first | exact ld_blk hN0_0.blk rfl | exact ld_blk_a hN0_0.blk rfl rfl)) ?_
                    refine xl_dec rfl rfl rfl (pv_eql rfl rfl rfl) (fun h14_6 => ?_) (fun h14_6 => ?_)
                    · skip
                      refine xl_pure rfl rfl rfl (pv_pick_t (v := .bool _) rfl rfl rfl) ?_
                      refine xl_pure rfl rfl rfl (pv_move (v := .bool _) rfl rfl) ?_
                      refine xl_pure rfl rfl rfl (pv_move (v := .bool _) rfl rfl) ?_
                      cases fr
                      · skip
                        replace hfr := mt hfr.2 (by decide)
                        refine xl_pure rfl rfl rfl (pv_pick_t (v := .bool _) rfl rfl rfl) ?_
                        refine xl_pure rfl rfl rfl (pv_assign (v := .bool _) rfl rfl) ?_
                        refine xl_nil ?_
                        refine xthen_normal ?_
                        refine xc_ret ?_
                        refine xblock_ret ?_
                        refine xthen_ret ?_
                        refine fin_ret (res1 (v := .bool _) rfl rfl) ?_
                        first
                          | exact ⟨_, rfl, (by first | exact ⟨fun _ => by ((try unfold Stands at *); (try unfold Free at *); (try unfold Taken at *); (try unfold Due at *); (try unfold Who at *); (try unfold What at *); (try unfold Kin at *); omega), fun _ => rfl⟩ | exact ⟨fun h => absurd h (by decide), fun h => by ((try unfold Stands at *); (try unfold Free at *); (try unfold Taken at *); (try unfold Due at *); (try unfold Who at *); (try unfold What at *); (try unfold Kin at *); omega)⟩), hN0_0.ext⟩
                          | exact ⟨_, rfl, (by first | exact ⟨fun _ => by ((try unfold Stands at *); (try unfold Free at *); (try unfold Taken at *); (try unfold Due at *); (try unfold Who at *); (try unfold What at *); (try unfold Kin at *); omega), fun _ => rfl⟩ | exact ⟨fun h => absurd h (by decide), fun h => by ((try unfold Stands at *); (try unfold Free at *); (try unfold Taken at *); (try unfold Due at *); (try unfold Who at *); (try unfold What at *); (try unfold Kin at *); omega)⟩), hN0_0.ext.trans hE8_6⟩
                          | exact ⟨_, rfl, (by first | exact ⟨fun _ => by ((try unfold Stands at *); (try unfold Free at *); (try unfold Taken at *); (try unfold Due at *); (try unfold Who at *); (try unfold What at *); (try unfold Kin at *); omega), fun _ => rfl⟩ | exact ⟨fun h => absurd h (by decide), fun h => by ((try unfold Stands at *); (try unfold Free at *); (try unfold Taken at *); (try unfold Due at *); (try unfold Who at *); (try unfold What at *); (try unfold Kin at *); omega)⟩), hN0_0.ext.trans hE10_5⟩
                          | exact ⟨_, rfl, (by first | exact ⟨fun _ => by ((try unfold Stands at *); (try unfold Free at *); (try unfold Taken at *); (try unfold Due at *); (try unfold Who at *); (try unfold What at *); (try unfold Kin at *); omega), fun _ => rfl⟩ | exact ⟨fun h => absurd h (by decide), fun h => by ((try unfold Stands at *); (try unfold Free at *); (try unfold Taken at *); (try unfold Due at *); (try unfold Who at *); (try unfold What at *); (try unfold Kin at *); omega)⟩), hN0_0.ext.trans hE12_8⟩
                      · skip
                        replace hfr := hfr.1 rfl
                        refine xl_pure rfl rfl rfl (pv_pick_t (v := .bool _) rfl rfl rfl) ?_
                        refine xl_pure rfl rfl rfl (pv_assign (v := .bool _) rfl rfl) ?_
                        refine xl_nil ?_
                        refine xthen_normal ?_
                        refine xc_ret ?_
                        refine xblock_ret ?_
                        refine xthen_ret ?_
                        refine fin_ret (res1 (v := .bool _) rfl rfl) ?_
                        first
                          | exact ⟨_, rfl, (by first | exact ⟨fun _ => by ((try unfold Stands at *); (try unfold Free at *); (try unfold Taken at *); (try unfold Due at *); (try unfold Who at *); (try unfold What at *); (try unfold Kin at *); omega), fun _ => rfl⟩ | exact ⟨fun h => absurd h (by decide), fun h => by ((try unfold Stands at *); (try unfold Free at *); (try unfold Taken at *); (try unfold Due at *); (try unfold Who at *); (try unfold What at *); (try unfold Kin at *); omega)⟩), hN0_0.ext⟩
                          | exact ⟨_, rfl, (by first | exact ⟨fun _ => by ((try unfold Stands at *); (try unfold Free at *); (try unfold Taken at *); (try unfold Due at *); (try unfold Who at *); (try unfold What at *); (try unfold Kin at *); omega), fun _ => rfl⟩ | exact ⟨fun h => absurd h (by decide), fun h => by ((try unfold Stands at *); (try unfold Free at *); (try unfold Taken at *); (try unfold Due at *); (try unfold Who at *); (try unfold What at *); (try unfold Kin at *); omega)⟩), hN0_0.ext.trans hE8_6⟩
                          | exact ⟨_, rfl, (by first | exact ⟨fun _ => by ((try unfold Stands at *); (try unfold Free at *); (try unfold Taken at *); (try unfold Due at *); (try unfold Who at *); (try unfold What at *); (try unfold Kin at *); omega), fun _ => rfl⟩ | exact ⟨fun h => absurd h (by decide), fun h => by ((try unfold Stands at *); (try unfold Free at *); (try unfold Taken at *); (try unfold Due at *); (try unfold Who at *); (try unfold What at *); (try unfold Kin at *); omega)⟩), hN0_0.ext.trans hE10_5⟩
                          | exact ⟨_, rfl, (by first | exact ⟨fun _ => by ((try unfold Stands at *); (try unfold Free at *); (try unfold Taken at *); (try unfold Due at *); (try unfold Who at *); (try unfold What at *); (try unfold Kin at *); omega), fun _ => rfl⟩ | exact ⟨fun h => absurd h (by decide), fun h => by ((try unfold Stands at *); (try unfold Free at *); (try unfold Taken at *); (try unfold Due at *); (try unfold Who at *); (try unfold What at *); (try unfold Kin at *); omega)⟩), hN0_0.ext.trans hE12_8⟩
                    · skip
                      refine xl_pure rfl rfl rfl (pv_pick_t (v := .bool _) rfl rfl rfl) ?_
                      refine xl_pure rfl rfl rfl (pv_move (v := .bool _) rfl rfl) ?_
                      refine xl_skip rfl rfl rfl ?_
                      refine xl_pure rfl rfl rfl (pv_pick_f (v := .bool _) rfl rfl rfl) ?_
                      refine xl_pure rfl rfl rfl (pv_assign (v := .bool _) rfl rfl) ?_
                      refine xl_nil ?_
                      refine xthen_normal ?_
                      refine xc_ret ?_
                      refine xblock_ret ?_
                      refine xthen_ret ?_
                      refine fin_ret (res1 (v := .bool _) rfl rfl) ?_
                      first
                        | exact ⟨_, rfl, (by first | exact ⟨fun _ => by ((try unfold Stands at *); (try unfold Free at *); (try unfold Taken at *); (try unfold Due at *); (try unfold Who at *); (try unfold What at *); (try unfold Kin at *); omega), fun _ => rfl⟩ | exact ⟨fun h => absurd h (by decide), fun h => by ((try unfold Stands at *); (try unfold Free at *); (try unfold Taken at *); (try unfold Due at *); (try unfold Who at *); (try unfold What at *); (try unfold Kin at *); omega)⟩), hN0_0.ext⟩
                        | exact ⟨_, rfl, (by first | exact ⟨fun _ => by ((try unfold Stands at *); (try unfold Free at *); (try unfold Taken at *); (try unfold Due at *); (try unfold Who at *); (try unfold What at *); (try unfold Kin at *); omega), fun _ => rfl⟩ | exact ⟨fun h => absurd h (by decide), fun h => by ((try unfold Stands at *); (try unfold Free at *); (try unfold Taken at *); (try unfold Due at *); (try unfold Who at *); (try unfold What at *); (try unfold Kin at *); omega)⟩), hN0_0.ext.trans hE8_6⟩
                        | exact ⟨_, rfl, (by first | exact ⟨fun _ => by ((try unfold Stands at *); (try unfold Free at *); (try unfold Taken at *); (try unfold Due at *); (try unfold Who at *); (try unfold What at *); (try unfold Kin at *); omega), fun _ => rfl⟩ | exact ⟨fun h => absurd h (by decide), fun h => by ((try unfold Stands at *); (try unfold Free at *); (try unfold Taken at *); (try unfold Due at *); (try unfold Who at *); (try unfold What at *); (try unfold Kin at *); omega)⟩), hN0_0.ext.trans hE10_5⟩
                        | exact ⟨_, rfl, (by first | exact ⟨fun _ => by ((try unfold Stands at *); (try unfold Free at *); (try unfold Taken at *); (try unfold Due at *); (try unfold Who at *); (try unfold What at *); (try unfold Kin at *); omega), fun _ => rfl⟩ | exact ⟨fun h => absurd h (by decide), fun h => by ((try unfold Stands at *); (try unfold Free at *); (try unfold Taken at *); (try unfold Due at *); (try unfold Who at *); (try unfold What at *); (try unfold Kin at *); omega)⟩), hN0_0.ext.trans hE12_8⟩
                · skip
                  refine xl_pure rfl rfl rfl (pv_assign (v := .bool _) rfl rfl) ?_
                  refine xl_nil ?_
                  refine xthen_normal ?_
                  refine xc_cond_f rfl ?_
                  refine xc_seq ?_
                  refine xc_seq ?_
                  refine xc_region ?_
                  refine xl_dec rfl rfl rfl (pv_eql rfl rfl rfl) (fun h15_0 => ?_) (fun h15_0 => ?_)
                  · skip
                    refine xl_pure rfl rfl rfl (pv_assign (v := .bool _) rfl rfl) ?_
                    refine xl_nil ?_
                    refine xthen_normal ?_
                    refine xc_cond_t rfl ?_
                    refine xc_skip ?_
                    refine xthen_normal ?_
                    refine xc_cond_t rfl ?_
                    refine xc_seq ?_
                    refine xc_region ?_
                    refine xl_pure rfl rfl rfl (pv_fieldAddr rfl rfl) ?_
                    refine xl_light rfl rfl rfl (lv_load (v := .int _ _) rfl rfl (by first | exact ld_blk hN0_0.blk rfl | exact ld_blk_a hN0_0.blk rfl rfl)) ?_
                    refine xl_dec rfl rfl rfl (pv_eql rfl rfl rfl) (fun h17_2 => ?_) (fun h17_2 => ?_)
                    · skip
                      refine xl_pure rfl rfl rfl (pv_move (v := .bool _) rfl rfl) ?_
                      refine xl_pure rfl rfl rfl (pv_move (v := .bool _) rfl rfl) ?_
                      cases fr
                      · skip
                        replace hfr := mt hfr.2 (by decide)
                        refine xl_pure rfl rfl rfl (pv_pick_t (v := .bool _) rfl rfl rfl) ?_
                        refine xl_pure rfl rfl rfl (pv_assign (v := .bool _) rfl rfl) ?_
                        refine xl_nil ?_
                        refine xthen_normal ?_
                        refine xc_ret ?_
                        refine xblock_ret ?_
                        refine xthen_ret ?_
                        refine fin_ret (res1 (v := .bool _) rfl rfl) ?_
                        first
                          | exact ⟨_, rfl, (by first | exact ⟨fun _ => by ((try unfold Stands at *); (try unfold Free at *); (try unfold Taken at *); (try unfold Due at *); (try unfold Who at *); (try unfold What at *); (try unfold Kin at *); omega), fun _ => rfl⟩ | exact ⟨fun h => absurd h (by decide), fun h => by ((try unfold Stands at *); (try unfold Free at *); (try unfold Taken at *); (try unfold Due at *); (try unfold Who at *); (try unfold What at *); (try unfold Kin at *); omega)⟩), hN0_0.ext⟩
                          | exact ⟨_, rfl, (by first | exact ⟨fun _ => by ((try unfold Stands at *); (try unfold Free at *); (try unfold Taken at *); (try unfold Due at *); (try unfold Who at *); (try unfold What at *); (try unfold Kin at *); omega), fun _ => rfl⟩ | exact ⟨fun h => absurd h (by decide), fun h => by ((try unfold Stands at *); (try unfold Free at *); (try unfold Taken at *); (try unfold Due at *); (try unfold Who at *); (try unfold What at *); (try unfold Kin at *); omega)⟩), hN0_0.ext.trans hE8_6⟩
                          | exact ⟨_, rfl, (by first | exact ⟨fun _ => by ((try unfold Stands at *); (try unfold Free at *); (try unfold Taken at *); (try unfold Due at *); (try unfold Who at *); (try unfold What at *); (try unfold Kin at *); omega), fun _ => rfl⟩ | exact ⟨fun h => absurd h (by decide), fun h => by ((try unfold Stands at *); (try unfold Free at *); (try unfold Taken at *); (try unfold Due at *); (try unfold Who at *); (try unfold What at *); (try unfold Kin at *); omega)⟩), hN0_0.ext.trans hE10_5⟩
                          | exact ⟨_, rfl, (by first | exact ⟨fun _ => by ((try unfold Stands at *); (try unfold Free at *); (try unfold Taken at *); (try unfold Due at *); (try unfold Who at *); (try unfold What at *); (try unfold Kin at *); omega), fun _ => rfl⟩ | exact ⟨fun h => absurd h (by decide), fun h => by ((try unfold Stands at *); (try unfold Free at *); (try unfold Taken at *); (try unfold Due at *); (try unfold Who at *); (try unfold What at *); (try unfold Kin at *); omega)⟩), hN0_0.ext.trans hE12_8⟩
                      · skip
                        replace hfr := hfr.1 rfl
                        refine xl_pure rfl rfl rfl (pv_pick_t (v := .bool _) rfl rfl rfl) ?_
                        refine xl_pure rfl rfl rfl (pv_assign (v := .bool _) rfl rfl) ?_
                        refine xl_nil ?_
                        refine xthen_normal ?_
                        refine xc_ret ?_
                        refine xblock_ret ?_
                        refine xthen_ret ?_
                        refine fin_ret (res1 (v := .bool _) rfl rfl) ?_
                        first
                          | exact ⟨_, rfl, (by first | exact ⟨fun _ => by ((try unfold Stands at *); (try unfold Free at *); (try unfold Taken at *); (try unfold Due at *); (try unfold Who at *); (try unfold What at *); (try unfold Kin at *); omega), fun _ => rfl⟩ | exact ⟨fun h => absurd h (by decide), fun h => by ((try unfold Stands at *); (try unfold Free at *); (try unfold Taken at *); (try unfold Due at *); (try unfold Who at *); (try unfold What at *); (try unfold Kin at *); omega)⟩), hN0_0.ext⟩
                          | exact ⟨_, rfl, (by first | exact ⟨fun _ => by ((try unfold Stands at *); (try unfold Free at *); (try unfold Taken at *); (try unfold Due at *); (try unfold Who at *); (try unfold What at *); (try unfold Kin at *); omega), fun _ => rfl⟩ | exact ⟨fun h => absurd h (by decide), fun h => by ((try unfold Stands at *); (try unfold Free at *); (try unfold Taken at *); (try unfold Due at *); (try unfold Who at *); (try unfold What at *); (try unfold Kin at *); omega)⟩), hN0_0.ext.trans hE8_6⟩
                          | exact ⟨_, rfl, (by first | exact ⟨fun _ => by ((try unfold Stands at *); (try unfold Free at *); (try unfold Taken at *); (try unfold Due at *); (try unfold Who at *); (try unfold What at *); (try unfold Kin at *); omega), fun _ => rfl⟩ | exact ⟨fun h => absurd h (by decide), fun h => by ((try unfold Stands at *); (try unfold Free at *); (try unfold Taken at *); (try unfold Due at *); (try unfold Who at *); (try unfold What at *); (try unfold Kin at *); omega)⟩), hN0_0.ext.trans hE10_5⟩
                          | exact ⟨_, rfl, (by first | exact ⟨fun _ => by ((try unfold Stands at *); (try unfold Free at *); (try unfold Taken at *); (try unfold Due at *); (try unfold Who at *); (try unfold What at *); (try unfold Kin at *); omega), fun _ => rfl⟩ | exact ⟨fun h => absurd h (by decide), fun h => by ((try unfold Stands at *); (try unfold Free at *); (try unfold Taken at *); (try unfold Due at *); (try unfold Who at *); (try unfold What at *); (try unfold Kin at *); omega)⟩), hN0_0.ext.trans hE12_8⟩
                    · skip
                      refine xl_pure rfl rfl rfl (pv_move (v := .bool _) rfl rfl) ?_
                      refine xl_skip rfl rfl rfl ?_
                      refine xl_pure rfl rfl rfl (pv_pick_f (v := .bool _) rfl rfl rfl) ?_
                      refine xl_pure rfl rfl rfl (pv_assign (v := .bool _) rfl rfl) ?_
                      refine xl_nil ?_
                      refine xthen_normal ?_
                      refine xc_ret ?_
                      refine xblock_ret ?_
                      refine xthen_ret ?_
                      refine fin_ret (res1 (v := .bool _) rfl rfl) ?_
                      first
                        | exact ⟨_, rfl, (by first | exact ⟨fun _ => by ((try unfold Stands at *); (try unfold Free at *); (try unfold Taken at *); (try unfold Due at *); (try unfold Who at *); (try unfold What at *); (try unfold Kin at *); omega), fun _ => rfl⟩ | exact ⟨fun h => absurd h (by decide), fun h => by ((try unfold Stands at *); (try unfold Free at *); (try unfold Taken at *); (try unfold Due at *); (try unfold Who at *); (try unfold What at *); (try unfold Kin at *); omega)⟩), hN0_0.ext⟩
                        | exact ⟨_, rfl, (by first | exact ⟨fun _ => by ((try unfold Stands at *); (try unfold Free at *); (try unfold Taken at *); (try unfold Due at *); (try unfold Who at *); (try unfold What at *); (try unfold Kin at *); omega), fun _ => rfl⟩ | exact ⟨fun h => absurd h (by decide), fun h => by ((try unfold Stands at *); (try unfold Free at *); (try unfold Taken at *); (try unfold Due at *); (try unfold Who at *); (try unfold What at *); (try unfold Kin at *); omega)⟩), hN0_0.ext.trans hE8_6⟩
                        | exact ⟨_, rfl, (by first | exact ⟨fun _ => by ((try unfold Stands at *); (try unfold Free at *); (try unfold Taken at *); (try unfold Due at *); (try unfold Who at *); (try unfold What at *); (try unfold Kin at *); omega), fun _ => rfl⟩ | exact ⟨fun h => absurd h (by decide), fun h => by ((try unfold Stands at *); (try unfold Free at *); (try unfold Taken at *); (try unfold Due at *); (try unfold Who at *); (try unfold What at *); (try unfold Kin at *); omega)⟩), hN0_0.ext.trans hE10_5⟩
                        | exact ⟨_, rfl, (by first | exact ⟨fun _ => by ((try unfold Stands at *); (try unfold Free at *); (try unfold Taken at *); (try unfold Due at *); (try unfold Who at *); (try unfold What at *); (try unfold Kin at *); omega), fun _ => rfl⟩ | exact ⟨fun h => absurd h (by decide), fun h => by ((try unfold Stands at *); (try unfold Free at *); (try unfold Taken at *); (try unfold Due at *); (try unfold Who at *); (try unfold What at *); (try unfold Kin at *); omega)⟩), hN0_0.ext.trans hE12_8⟩
                  · skip
                    refine xl_pure rfl rfl rfl (pv_assign (v := .bool _) rfl rfl) ?_
                    refine xl_nil ?_
                    refine xthen_normal ?_
                    refine xc_cond_f rfl ?_
                    refine xc_region ?_
                    refine xl_dec rfl rfl rfl (pv_eql rfl rfl rfl) (fun h16_0 => ?_) (fun h16_0 => ?_)
                    · skip
                      refine xl_pure rfl rfl rfl (pv_assign (v := .bool _) rfl rfl) ?_
                      refine xl_nil ?_
                      refine xthen_normal ?_
                      refine xc_cond_t rfl ?_
                      refine xc_seq ?_
                      refine xc_region ?_
                      refine xl_pure rfl rfl rfl (pv_fieldAddr rfl rfl) ?_
                      refine xl_light rfl rfl rfl (lv_load (v := .int _ _) rfl rfl (by first | exact ld_blk hN0_0.blk rfl | exact ld_blk_a hN0_0.blk rfl rfl)) ?_
                      refine xl_dec rfl rfl rfl (pv_eql rfl rfl rfl) (fun h17_2 => ?_) (fun h17_2 => ?_)
                      · skip
                        refine xl_pure rfl rfl rfl (pv_move (v := .bool _) rfl rfl) ?_
                        refine xl_pure rfl rfl rfl (pv_move (v := .bool _) rfl rfl) ?_
                        cases fr
                        · skip
                          replace hfr := mt hfr.2 (by decide)
                          refine xl_pure rfl rfl rfl (pv_pick_t (v := .bool _) rfl rfl rfl) ?_
                          refine xl_pure rfl rfl rfl (pv_assign (v := .bool _) rfl rfl) ?_
                          refine xl_nil ?_
                          refine xthen_normal ?_
                          refine xc_ret ?_
                          refine xblock_ret ?_
                          refine xthen_ret ?_
                          refine fin_ret (res1 (v := .bool _) rfl rfl) ?_
                          first
                            | exact ⟨_, rfl, (by first | exact ⟨fun _ => by ((try unfold Stands at *); (try unfold Free at *); (try unfold Taken at *); (try unfold Due at *); (try unfold Who at *); (try unfold What at *); (try unfold Kin at *); omega), fun _ => rfl⟩ | exact ⟨fun h => absurd h (by decide), fun h => by ((try unfold Stands at *); (try unfold Free at *); (try unfold Taken at *); (try unfold Due at *); (try unfold Who at *); (try unfold What at *); (try unfold Kin at *); omega)⟩), hN0_0.ext⟩
                            | exact ⟨_, rfl, (by first | exact ⟨fun _ => by ((try unfold Stands at *); (try unfold Free at *); (try unfold Taken at *); (try unfold Due at *); (try unfold Who at *); (try unfold What at *); (try unfold Kin at *); omega), fun _ => rfl⟩ | exact ⟨fun h => absurd h (by decide), fun h => by ((try unfold Stands at *); (try unfold Free at *); (try unfold Taken at *); (try unfold Due at *); (try unfold Who at *); (try unfold What at *); (try unfold Kin at *); omega)⟩), hN0_0.ext.trans hE8_6⟩
                            | exact ⟨_, rfl, (by first | exact ⟨fun _ => by ((try unfold Stands at *); (try unfold Free at *); (try unfold Taken at *); (try unfold Due at *); (try unfold Who at *); (try unfold What at *); (try unfold Kin at *); omega), fun _ => rfl⟩ | exact ⟨fun h => absurd h (by decide), fun h => by ((try unfold Stands at *); (try unfold Free at *); (try unfold Taken at *); (try unfold Due at *); (try unfold Who at *); (try unfold What at *); (try unfold Kin at *); omega)⟩), hN0_0.ext.trans hE10_5⟩
                            | exact ⟨_, rfl, (by first | exact ⟨fun _ => by ((try unfold Stands at *); (try unfold Free at *); (try unfold Taken at *); (try unfold Due at *); (try unfold Who at *); (try unfold What at *); (try unfold Kin at *); omega), fun _ => rfl⟩ | exact ⟨fun h => absurd h (by decide), fun h => by ((try unfold Stands at *); (try unfold Free at *); (try unfold Taken at *); (try unfold Due at *); (try unfold Who at *); (try unfold What at *); (try unfold Kin at *); omega)⟩), hN0_0.ext.trans hE12_8⟩
                        · skip
                          replace hfr := hfr.1 rfl
                          refine xl_pure rfl rfl rfl (pv_pick_t (v := .bool _) rfl rfl rfl) ?_
                          refine xl_pure rfl rfl rfl (pv_assign (v := .bool _) rfl rfl) ?_
                          refine xl_nil ?_
                          refine xthen_normal ?_
                          refine xc_ret ?_
                          refine xblock_ret ?_
                          refine xthen_ret ?_
                          refine fin_ret (res1 (v := .bool _) rfl rfl) ?_
                          first
                            | exact ⟨_, rfl, (by first | exact ⟨fun _ => by ((try unfold Stands at *); (try unfold Free at *); (try unfold Taken at *); (try unfold Due at *); (try unfold Who at *); (try unfold What at *); (try unfold Kin at *); omega), fun _ => rfl⟩ | exact ⟨fun h => absurd h (by decide), fun h => by ((try unfold Stands at *); (try unfold Free at *); (try unfold Taken at *); (try unfold Due at *); (try unfold Who at *); (try unfold What at *); (try unfold Kin at *); omega)⟩), hN0_0.ext⟩
                            | exact ⟨_, rfl, (by first | exact ⟨fun _ => by ((try unfold Stands at *); (try unfold Free at *); (try unfold Taken at *); (try unfold Due at *); (try unfold Who at *); (try unfold What at *); (try unfold Kin at *); omega), fun _ => rfl⟩ | exact ⟨fun h => absurd h (by decide), fun h => by ((try unfold Stands at *); (try unfold Free at *); (try unfold Taken at *); (try unfold Due at *); (try unfold Who at *); (try unfold What at *); (try unfold Kin at *); omega)⟩), hN0_0.ext.trans hE8_6⟩
                            | exact ⟨_, rfl, (by first | exact ⟨fun _ => by ((try unfold Stands at *); (try unfold Free at *); (try unfold Taken at *); (try unfold Due at *); (try unfold Who at *); (try unfold What at *); (try unfold Kin at *); omega), fun _ => rfl⟩ | exact ⟨fun h => absurd h (by decide), fun h => by ((try unfold Stands at *); (try unfold Free at *); (try unfold Taken at *); (try unfold Due at *); (try unfold Who at *); (try unfold What at *); (try unfold Kin at *); omega)⟩), hN0_0.ext.trans hE10_5⟩
                            | exact ⟨_, rfl, (by first | exact ⟨fun _ => by ((try unfold Stands at *); (try unfold Free at *); (try unfold Taken at *); (try unfold Due at *); (try unfold Who at *); (try unfold What at *); (try unfold Kin at *); omega), fun _ => rfl⟩ | exact ⟨fun h => absurd h (by decide), fun h => by ((try unfold Stands at *); (try unfold Free at *); (try unfold Taken at *); (try unfold Due at *); (try unfold Who at *); (try unfold What at *); (try unfold Kin at *); omega)⟩), hN0_0.ext.trans hE12_8⟩
                      · skip
                        refine xl_pure rfl rfl rfl (pv_move (v := .bool _) rfl rfl) ?_
                        refine xl_skip rfl rfl rfl ?_
                        refine xl_pure rfl rfl rfl (pv_pick_f (v := .bool _) rfl rfl rfl) ?_
                        refine xl_pure rfl rfl rfl (pv_assign (v := .bool _) rfl rfl) ?_
                        refine xl_nil ?_
                        refine xthen_normal ?_
                        refine xc_ret ?_
                        refine xblock_ret ?_
                        refine xthen_ret ?_
                        refine fin_ret (res1 (v := .bool _) rfl rfl) ?_
                        first
                          | exact ⟨_, rfl, (by first | exact ⟨fun _ => by ((try unfold Stands at *); (try unfold Free at *); (try unfold Taken at *); (try unfold Due at *); (try unfold Who at *); (try unfold What at *); (try unfold Kin at *); omega), fun _ => rfl⟩ | exact ⟨fun h => absurd h (by decide), fun h => by ((try unfold Stands at *); (try unfold Free at *); (try unfold Taken at *); (try unfold Due at *); (try unfold Who at *); (try unfold What at *); (try unfold Kin at *); omega)⟩), hN0_0.ext⟩
                          | exact ⟨_, rfl, (by first | exact ⟨fun _ => by ((try unfold Stands at *); (try unfold Free at *); (try unfold Taken at *); (try unfold Due at *); (try unfold Who at *); (try unfold What at *); (try unfold Kin at *); omega), fun _ => rfl⟩ | exact ⟨fun h => absurd h (by decide), fun h => by ((try unfold Stands at *); (try unfold Free at *); (try unfold Taken at *); (try unfold Due at *); (try unfold Who at *); (try unfold What at *); (try unfold Kin at *); omega)⟩), hN0_0.ext.trans hE8_6⟩
                          | exact ⟨_, rfl, (by first | exact ⟨fun _ => by ((try unfold Stands at *); (try unfold Free at *); (try unfold Taken at *); (try unfold Due at *); (try unfold Who at *); (try unfold What at *); (try unfold Kin at *); omega), fun _ => rfl⟩ | exact ⟨fun h => absurd h (by decide), fun h => by ((try unfold Stands at *); (try unfold Free at *); (try unfold Taken at *); (try unfold Due at *); (try unfold Who at *); (try unfold What at *); (try unfold Kin at *); omega)⟩), hN0_0.ext.trans hE10_5⟩
                          | exact ⟨_, rfl, (by first | exact ⟨fun _ => by ((try unfold Stands at *); (try unfold Free at *); (try unfold Taken at *); (try unfold Due at *); (try unfold Who at *); (try unfold What at *); (try unfold Kin at *); omega), fun _ => rfl⟩ | exact ⟨fun h => absurd h (by decide), fun h => by ((try unfold Stands at *); (try unfold Free at *); (try unfold Taken at *); (try unfold Due at *); (try unfold Who at *); (try unfold What at *); (try unfold Kin at *); omega)⟩), hN0_0.ext.trans hE12_8⟩
                    · skip
                      refine xl_pure rfl rfl rfl (pv_assign (v := .bool _) rfl rfl) ?_
                      refine xl_nil ?_
                      refine xthen_normal ?_
                      refine xc_cond_f rfl ?_
                      refine xc_skip ?_
                      refine xblock_normal ?_
                      refine xthen_normal ?_
                      refine xc_seq ?_
                      refine xc_region ?_
                      refine xl_pure rfl rfl rfl (pv_assign (v := .bool _) rfl rfl) ?_
                      refine xl_nil ?_
                      refine xthen_normal ?_
                      refine xc_ret ?_
                      refine fin_ret (res1 (v := .bool _) rfl rfl) ?_
                      first
                        | exact ⟨_, rfl, (by first | exact ⟨fun _ => by ((try unfold Stands at *); (try unfold Free at *); (try unfold Taken at *); (try unfold Due at *); (try unfold Who at *); (try unfold What at *); (try unfold Kin at *); omega), fun _ => rfl⟩ | exact ⟨fun h => absurd h (by decide), fun h => by ((try unfold Stands at *); (try unfold Free at *); (try unfold Taken at *); (try unfold Due at *); (try unfold Who at *); (try unfold What at *); (try unfold Kin at *); omega)⟩), hN0_0.ext⟩
                        | exact ⟨_, rfl, (by first | exact ⟨fun _ => by ((try unfold Stands at *); (try unfold Free at *); (try unfold Taken at *); (try unfold Due at *); (try unfold Who at *); (try unfold What at *); (try unfold Kin at *); omega), fun _ => rfl⟩ | exact ⟨fun h => absurd h (by decide), fun h => by ((try unfold Stands at *); (try unfold Free at *); (try unfold Taken at *); (try unfold Due at *); (try unfold Who at *); (try unfold What at *); (try unfold Kin at *); omega)⟩), hN0_0.ext.trans hE8_6⟩
                        | exact ⟨_, rfl, (by first | exact ⟨fun _ => by ((try unfold Stands at *); (try unfold Free at *); (try unfold Taken at *); (try unfold Due at *); (try unfold Who at *); (try unfold What at *); (try unfold Kin at *); omega), fun _ => rfl⟩ | exact ⟨fun h => absurd h (by decide), fun h => by ((try unfold Stands at *); (try unfold Free at *); (try unfold Taken at *); (try unfold Due at *); (try unfold Who at *); (try unfold What at *); (try unfold Kin at *); omega)⟩), hN0_0.ext.trans hE10_5⟩
                        | exact ⟨_, rfl, (by first | exact ⟨fun _ => by ((try unfold Stands at *); (try unfold Free at *); (try unfold Taken at *); (try unfold Due at *); (try unfold Who at *); (try unfold What at *); (try unfold Kin at *); omega), fun _ => rfl⟩ | exact ⟨fun h => absurd h (by decide), fun h => by ((try unfold Stands at *); (try unfold Free at *); (try unfold Taken at *); (try unfold Due at *); (try unfold Who at *); (try unfold What at *); (try unfold Kin at *); omega)⟩), hN0_0.ext.trans hE12_8⟩
end Go.XG
