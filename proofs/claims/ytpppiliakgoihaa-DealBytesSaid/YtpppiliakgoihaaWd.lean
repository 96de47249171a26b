/-
  Walks of the seat's functions over the logic XG: each function, what it computes. Printed by a program out of wip/walks.py.
-/
import Derived.Test.YtpppiliakgoihaaI
import Derived.Test.YtpppiliakgoihaaG
import Derived.Test.YtpppiliakgoihaaP
import Derived.Test.YtpppiliakgoihaaWa
import Derived.Test.YtpppiliakgoihaaWb
import Derived.Test.YtpppiliakgoihaaWc
namespace Go.XG
open Go.Proofs
set_option maxRecDepth 4000
set_option maxHeartbeats 4000000
theorem c20 {O : Outer} {H : Heap} (d : D) (a b : Option Addr) (c e : Nat) (hs : Stks H a d.gives) (hs' : Stks H b d.wants) (hl : d.gives.length < 1099511627776) (hl' : d.wants.length < 1099511627776) :
    FnC Try.prog 20 #[.agg (dcs d a b c e).toArray] O H (fun v H' => ∃ e, v = .int .i64 e ∧ (Good d ∧ e = 0 ∨ ¬ Good d ∧ e = 1) ∧ Ext H H') := by
  refine fn_enter (A := [.agg (dcs d a b c e).toArray]) Try.func20 rfl rfl ?_
  refine xc_seq ?_
  refine xc_region ?_
  refine xl_heavy rfl rfl rfl (hv_box rfl rfl) ?_
  rintro v0_0 H0_0 ⟨b0_0, rfl, hN0_0⟩
  have hr := hN0_0.blk
  have hX := hN0_0.ext
  refine xl_pure rfl rfl rfl (pv_assign (v := .int _ _) rfl rfl) ?_
  refine xl_nil ?_
  refine xthen_normal ?_
  refine xc_cut (τ := Bool) (fun t => [(1, .pointer (some ⟨b0_0, 0, none⟩)), (3, .bool t)]) (fun t H' => (t = true ↔ Who d) ∧ H0_0 = H') ?_ ?_
  · skip
    refine xc_region ?_
    refine xl_pure rfl rfl rfl (pv_fieldAddr rfl rfl) ?_
    refine xl_light rfl rfl rfl (lv_load (v := .int _ _) rfl rfl (by first | exact ld_blk hr rfl)) ?_
    refine xl_heavy rfl rfl rfl (hv_call (g := 30) rfl rfl (c30 _ _ _) rfl) ?_
    rintro v1_2 H1_2 ⟨r1_2, rfl, hb1_2, rfl⟩
    cases r1_2
    · skip
      replace hb1_2 := mt hb1_2.2 (by decide)
      refine xl_pure rfl rfl rfl (pv_move (v := .bool _) rfl rfl) ?_
      refine xl_skip rfl rfl rfl ?_
      refine xl_skip rfl rfl rfl ?_
      refine xl_skip rfl rfl rfl ?_
      refine xl_pure rfl rfl rfl (pv_pick_f (v := .bool _) rfl rfl rfl) ?_
      refine xl_pure rfl rfl rfl (pv_move (v := .bool _) rfl rfl) ?_
      refine xl_skip rfl rfl rfl ?_
      refine xl_skip rfl rfl rfl ?_
      refine xl_skip rfl rfl rfl ?_
      refine xl_pure rfl rfl rfl (pv_pick_f (v := .bool _) rfl rfl rfl) ?_
      refine xl_pure rfl rfl rfl (pv_move (v := .bool _) rfl rfl) ?_
      refine xl_skip rfl rfl rfl ?_
      refine xl_skip rfl rfl rfl ?_
      refine xl_skip rfl rfl rfl ?_
      refine xl_pure rfl rfl rfl (pv_pick_f (v := .bool _) rfl rfl rfl) ?_
      refine xl_pure rfl rfl rfl (pv_move (v := .bool _) rfl rfl) ?_
      refine xl_skip rfl rfl rfl ?_
      refine xl_skip rfl rfl rfl ?_
      refine xl_skip rfl rfl rfl ?_
      refine xl_pure rfl rfl rfl (pv_pick_f (v := .bool _) rfl rfl rfl) ?_
      refine xl_pure rfl rfl rfl (pv_move (v := .bool _) rfl rfl) ?_
      refine xl_skip rfl rfl rfl ?_
      refine xl_skip rfl rfl rfl ?_
      refine xl_skip rfl rfl rfl ?_
      refine xl_skip rfl rfl rfl ?_
      refine xl_skip rfl rfl rfl ?_
      refine xl_pure rfl rfl rfl (pv_pick_f (v := .bool _) rfl rfl rfl) ?_
      refine xl_pure rfl rfl rfl (pv_assign (v := .bool _) rfl rfl) ?_
      refine xl_nil ?_
      refine xthen_normal ?_
      exact ⟨_, ⟨rfl, rfl, trivial⟩, (by first | exact ⟨fun _ => by ((try unfold Stands at *); (try unfold Free at *); (try unfold Taken at *); (try unfold Due at *); (try unfold Who at *); (try unfold What at *); (try unfold Kin at *); omega), fun _ => rfl⟩ | exact ⟨fun h => absurd h (by decide), fun h => by ((try unfold Stands at *); (try unfold Free at *); (try unfold Taken at *); (try unfold Due at *); (try unfold Who at *); (try unfold What at *); (try unfold Kin at *); omega)⟩), rfl⟩
    · skip
      replace hb1_2 := hb1_2.1 rfl
      refine xl_pure rfl rfl rfl (pv_move (v := .bool _) rfl rfl) ?_
      refine xl_pure rfl rfl rfl (pv_fieldAddr rfl rfl) ?_
      refine xl_light rfl rfl rfl (lv_load (v := .int _ _) rfl rfl (by first | exact ld_blk hr rfl)) ?_
      refine xl_heavy rfl rfl rfl (hv_call (g := 30) rfl rfl (c30 _ _ _) rfl) ?_
      rintro v1_6 H1_6 ⟨r1_6, rfl, hb1_6, rfl⟩
      cases r1_6
      · skip
        replace hb1_6 := mt hb1_6.2 (by decide)
        refine xl_pure rfl rfl rfl (pv_pick_t (v := .bool _) rfl rfl rfl) ?_
        refine xl_pure rfl rfl rfl (pv_move (v := .bool _) rfl rfl) ?_
        refine xl_skip rfl rfl rfl ?_
        refine xl_skip rfl rfl rfl ?_
        refine xl_skip rfl rfl rfl ?_
        refine xl_pure rfl rfl rfl (pv_pick_f (v := .bool _) rfl rfl rfl) ?_
        refine xl_pure rfl rfl rfl (pv_move (v := .bool _) rfl rfl) ?_
        refine xl_skip rfl rfl rfl ?_
        refine xl_skip rfl rfl rfl ?_
        refine xl_skip rfl rfl rfl ?_
        refine xl_pure rfl rfl rfl (pv_pick_f (v := .bool _) rfl rfl rfl) ?_
        refine xl_pure rfl rfl rfl (pv_move (v := .bool _) rfl rfl) ?_
        refine xl_skip rfl rfl rfl ?_
        refine xl_skip rfl rfl rfl ?_
        refine xl_skip rfl rfl rfl ?_
        refine xl_pure rfl rfl rfl (pv_pick_f (v := .bool _) rfl rfl rfl) ?_
        refine xl_pure rfl rfl rfl (pv_move (v := .bool _) rfl rfl) ?_
        refine xl_skip rfl rfl rfl ?_
        refine xl_skip rfl rfl rfl ?_
        refine xl_skip rfl rfl rfl ?_
        refine xl_skip rfl rfl rfl ?_
        refine xl_skip rfl rfl rfl ?_
        refine xl_pure rfl rfl rfl (pv_pick_f (v := .bool _) rfl rfl rfl) ?_
        refine xl_pure rfl rfl rfl (pv_assign (v := .bool _) rfl rfl) ?_
        refine xl_nil ?_
        refine xthen_normal ?_
        exact ⟨_, ⟨rfl, rfl, trivial⟩, (by first | exact ⟨fun _ => by ((try unfold Stands at *); (try unfold Free at *); (try unfold Taken at *); (try unfold Due at *); (try unfold Who at *); (try unfold What at *); (try unfold Kin at *); omega), fun _ => rfl⟩ | exact ⟨fun h => absurd h (by decide), fun h => by ((try unfold Stands at *); (try unfold Free at *); (try unfold Taken at *); (try unfold Due at *); (try unfold Who at *); (try unfold What at *); (try unfold Kin at *); omega)⟩), rfl⟩
      · skip
        replace hb1_6 := hb1_6.1 rfl
        refine xl_pure rfl rfl rfl (pv_pick_t (v := .bool _) rfl rfl rfl) ?_
        refine xl_pure rfl rfl rfl (pv_move (v := .bool _) rfl rfl) ?_
        refine xl_pure rfl rfl rfl (pv_fieldAddr rfl rfl) ?_
        refine xl_light rfl rfl rfl (lv_load (v := .int _ _) rfl rfl (by first | exact ld_blk hr rfl)) ?_
        refine xl_heavy rfl rfl rfl (hv_call (g := 30) rfl rfl (c30 _ _ _) rfl) ?_
        rintro v1_11 H1_11 ⟨r1_11, rfl, hb1_11, rfl⟩
        cases r1_11
        · skip
          replace hb1_11 := mt hb1_11.2 (by decide)
          refine xl_pure rfl rfl rfl (pv_pick_t (v := .bool _) rfl rfl rfl) ?_
          refine xl_pure rfl rfl rfl (pv_move (v := .bool _) rfl rfl) ?_
          refine xl_skip rfl rfl rfl ?_
          refine xl_skip rfl rfl rfl ?_
          refine xl_skip rfl rfl rfl ?_
          refine xl_pure rfl rfl rfl (pv_pick_f (v := .bool _) rfl rfl rfl) ?_
          refine xl_pure rfl rfl rfl (pv_move (v := .bool _) rfl rfl) ?_
          refine xl_skip rfl rfl rfl ?_
          refine xl_skip rfl rfl rfl ?_
          refine xl_skip rfl rfl rfl ?_
          refine xl_pure rfl rfl rfl (pv_pick_f (v := .bool _) rfl rfl rfl) ?_
          refine xl_pure rfl rfl rfl (pv_move (v := .bool _) rfl rfl) ?_
          refine xl_skip rfl rfl rfl ?_
          refine xl_skip rfl rfl rfl ?_
          refine xl_skip rfl rfl rfl ?_
          refine xl_skip rfl rfl rfl ?_
          refine xl_skip rfl rfl rfl ?_
          refine xl_pure rfl rfl rfl (pv_pick_f (v := .bool _) rfl rfl rfl) ?_
          refine xl_pure rfl rfl rfl (pv_assign (v := .bool _) rfl rfl) ?_
          refine xl_nil ?_
          refine xthen_normal ?_
          exact ⟨_, ⟨rfl, rfl, trivial⟩, (by first | exact ⟨fun _ => by ((try unfold Stands at *); (try unfold Free at *); (try unfold Taken at *); (try unfold Due at *); (try unfold Who at *); (try unfold What at *); (try unfold Kin at *); omega), fun _ => rfl⟩ | exact ⟨fun h => absurd h (by decide), fun h => by ((try unfold Stands at *); (try unfold Free at *); (try unfold Taken at *); (try unfold Due at *); (try unfold Who at *); (try unfold What at *); (try unfold Kin at *); omega)⟩), rfl⟩
        · skip
          replace hb1_11 := hb1_11.1 rfl
          refine xl_pure rfl rfl rfl (pv_pick_t (v := .bool _) rfl rfl rfl) ?_
          refine xl_pure rfl rfl rfl (pv_move (v := .bool _) rfl rfl) ?_
          refine xl_pure rfl rfl rfl (pv_fieldAddr rfl rfl) ?_
          refine xl_light rfl rfl rfl (lv_load (v := .int _ _) rfl rfl (by first | exact ld_blk hr rfl)) ?_
          refine xl_heavy rfl rfl rfl (hv_call (g := 30) rfl rfl (c30 _ _ _) rfl) ?_
          rintro v1_16 H1_16 ⟨r1_16, rfl, hb1_16, rfl⟩
          cases r1_16
          · skip
            replace hb1_16 := mt hb1_16.2 (by decide)
            refine xl_pure rfl rfl rfl (pv_pick_t (v := .bool _) rfl rfl rfl) ?_
            refine xl_pure rfl rfl rfl (pv_move (v := .bool _) rfl rfl) ?_
            refine xl_skip rfl rfl rfl ?_
            refine xl_skip rfl rfl rfl ?_
            refine xl_skip rfl rfl rfl ?_
            refine xl_pure rfl rfl rfl (pv_pick_f (v := .bool _) rfl rfl rfl) ?_
            refine xl_pure rfl rfl rfl (pv_move (v := .bool _) rfl rfl) ?_
            refine xl_skip rfl rfl rfl ?_
            refine xl_skip rfl rfl rfl ?_
            refine xl_skip rfl rfl rfl ?_
            refine xl_skip rfl rfl rfl ?_
            refine xl_skip rfl rfl rfl ?_
            refine xl_pure rfl rfl rfl (pv_pick_f (v := .bool _) rfl rfl rfl) ?_
            refine xl_pure rfl rfl rfl (pv_assign (v := .bool _) rfl rfl) ?_
            refine xl_nil ?_
            refine xthen_normal ?_
            exact ⟨_, ⟨rfl, rfl, trivial⟩, (by first | exact ⟨fun _ => by ((try unfold Stands at *); (try unfold Free at *); (try unfold Taken at *); (try unfold Due at *); (try unfold Who at *); (try unfold What at *); (try unfold Kin at *); omega), fun _ => rfl⟩ | exact ⟨fun h => absurd h (by decide), fun h => by ((try unfold Stands at *); (try unfold Free at *); (try unfold Taken at *); (try unfold Due at *); (try unfold Who at *); (try unfold What at *); (try unfold Kin at *); omega)⟩), rfl⟩
          · skip
            replace hb1_16 := hb1_16.1 rfl
            refine xl_pure rfl rfl rfl (pv_pick_t (v := .bool _) rfl rfl rfl) ?_
            refine xl_pure rfl rfl rfl (pv_move (v := .bool _) rfl rfl) ?_
            refine xl_pure rfl rfl rfl (pv_fieldAddr rfl rfl) ?_
            refine xl_light rfl rfl rfl (lv_load (v := .int _ _) rfl rfl (by first | exact ld_blk hr rfl)) ?_
            refine xl_heavy rfl rfl rfl (hv_call (g := 30) rfl rfl (c30 _ _ _) rfl) ?_
            rintro v1_21 H1_21 ⟨r1_21, rfl, hb1_21, rfl⟩
            cases r1_21
            · skip
              replace hb1_21 := mt hb1_21.2 (by decide)
              refine xl_pure rfl rfl rfl (pv_pick_t (v := .bool _) rfl rfl rfl) ?_
              refine xl_pure rfl rfl rfl (pv_move (v := .bool _) rfl rfl) ?_
              refine xl_skip rfl rfl rfl ?_
              refine xl_skip rfl rfl rfl ?_
              refine xl_skip rfl rfl rfl ?_
              refine xl_skip rfl rfl rfl ?_
              refine xl_skip rfl rfl rfl ?_
              refine xl_pure rfl rfl rfl (pv_pick_f (v := .bool _) rfl rfl rfl) ?_
              refine xl_pure rfl rfl rfl (pv_assign (v := .bool _) rfl rfl) ?_
              refine xl_nil ?_
              refine xthen_normal ?_
              exact ⟨_, ⟨rfl, rfl, trivial⟩, (by first | exact ⟨fun _ => by ((try unfold Stands at *); (try unfold Free at *); (try unfold Taken at *); (try unfold Due at *); (try unfold Who at *); (try unfold What at *); (try unfold Kin at *); omega), fun _ => rfl⟩ | exact ⟨fun h => absurd h (by decide), fun h => by ((try unfold Stands at *); (try unfold Free at *); (try unfold Taken at *); (try unfold Due at *); (try unfold Who at *); (try unfold What at *); (try unfold Kin at *); omega)⟩), rfl⟩
            · skip
              replace hb1_21 := hb1_21.1 rfl
              refine xl_pure rfl rfl rfl (pv_pick_t (v := .bool _) rfl rfl rfl) ?_
              refine xl_pure rfl rfl rfl (pv_move (v := .bool _) rfl rfl) ?_
              refine xl_pure rfl rfl rfl (pv_fieldAddr rfl rfl) ?_
              refine xl_light rfl rfl rfl (lv_load (v := .int _ _) rfl rfl (by first | exact ld_blk hr rfl)) ?_
              refine xl_pure rfl rfl rfl (pv_fieldAddr rfl rfl) ?_
              refine xl_light rfl rfl rfl (lv_load (v := .int _ _) rfl rfl (by first | exact ld_blk hr rfl)) ?_
              refine xl_ndec rfl rfl rfl (pv_neq rfl rfl rfl) (fun h1_28 => ?_) (fun h1_28 => ?_)
              · skip
                refine xl_pure rfl rfl rfl (pv_pick_t (v := .bool _) rfl rfl rfl) ?_
                refine xl_pure rfl rfl rfl (pv_assign (v := .bool _) rfl rfl) ?_
                refine xl_nil ?_
                refine xthen_normal ?_
                exact ⟨_, ⟨rfl, rfl, trivial⟩, (by first | exact ⟨fun _ => by ((try unfold Stands at *); (try unfold Free at *); (try unfold Taken at *); (try unfold Due at *); (try unfold Who at *); (try unfold What at *); (try unfold Kin at *); omega), fun _ => rfl⟩ | exact ⟨fun h => absurd h (by decide), fun h => by ((try unfold Stands at *); (try unfold Free at *); (try unfold Taken at *); (try unfold Due at *); (try unfold Who at *); (try unfold What at *); (try unfold Kin at *); omega)⟩), rfl⟩
              · skip
                refine xl_pure rfl rfl rfl (pv_pick_t (v := .bool _) rfl rfl rfl) ?_
                refine xl_pure rfl rfl rfl (pv_assign (v := .bool _) rfl rfl) ?_
                refine xl_nil ?_
                refine xthen_normal ?_
                exact ⟨_, ⟨rfl, rfl, trivial⟩, (by first | exact ⟨fun _ => by ((try unfold Stands at *); (try unfold Free at *); (try unfold Taken at *); (try unfold Due at *); (try unfold Who at *); (try unfold What at *); (try unfold Kin at *); omega), fun _ => rfl⟩ | exact ⟨fun h => absurd h (by decide), fun h => by ((try unfold Stands at *); (try unfold Free at *); (try unfold Taken at *); (try unfold Due at *); (try unfold Who at *); (try unfold What at *); (try unfold Kin at *); omega)⟩), rfl⟩
  · intro σ
    rintro wh Hm ⟨hwh, rfl⟩
    show XC _ _ _ (upds σ [(1, .pointer (some ⟨b0_0, 0, none⟩)), (3, .bool wh)]) _
    refine xc_cut (τ := Bool) (fun t => [(1, .pointer (some ⟨b0_0, 0, none⟩)), (3, .bool wh), (4, .bool t)]) (fun t H' => (t = true ↔ What d) ∧ H0_0 = H') ?_ ?_
    · skip
      refine xc_region ?_
      refine xl_pure rfl rfl rfl (pv_fieldAddr rfl rfl) ?_
      refine xl_light rfl rfl rfl (lv_load (v := .int _ _) rfl rfl (by first | exact ld_blk hr rfl)) ?_
      refine xl_heavy rfl rfl rfl (hv_call (g := 30) rfl rfl (c30 _ _ _) rfl) ?_
      rintro v2_2 H2_2 ⟨r2_2, rfl, hb2_2, rfl⟩
      cases r2_2
      · skip
        replace hb2_2 := mt hb2_2.2 (by decide)
        refine xl_pure rfl rfl rfl (pv_move (v := .bool _) rfl rfl) ?_
        refine xl_skip rfl rfl rfl ?_
        refine xl_skip rfl rfl rfl ?_
        refine xl_skip rfl rfl rfl ?_
        refine xl_pure rfl rfl rfl (pv_pick_f (v := .bool _) rfl rfl rfl) ?_
        refine xl_pure rfl rfl rfl (pv_move (v := .bool _) rfl rfl) ?_
        refine xl_skip rfl rfl rfl ?_
        refine xl_skip rfl rfl rfl ?_
        refine xl_skip rfl rfl rfl ?_
        refine xl_pure rfl rfl rfl (pv_pick_f (v := .bool _) rfl rfl rfl) ?_
        refine xl_pure rfl rfl rfl (pv_move (v := .bool _) rfl rfl) ?_
        refine xl_skip rfl rfl rfl ?_
        refine xl_skip rfl rfl rfl ?_
        refine xl_skip rfl rfl rfl ?_
        refine xl_pure rfl rfl rfl (pv_pick_f (v := .bool _) rfl rfl rfl) ?_
        refine xl_pure rfl rfl rfl (pv_assign (v := .bool _) rfl rfl) ?_
        refine xl_nil ?_
        refine xthen_normal ?_
        exact ⟨_, ⟨rfl, rfl, rfl, trivial⟩, (by first | exact ⟨fun _ => by ((try unfold Stands at *); (try unfold Free at *); (try unfold Taken at *); (try unfold Due at *); (try unfold Who at *); (try unfold What at *); (try unfold Kin at *); omega), fun _ => rfl⟩ | exact ⟨fun h => absurd h (by decide), fun h => by ((try unfold Stands at *); (try unfold Free at *); (try unfold Taken at *); (try unfold Due at *); (try unfold Who at *); (try unfold What at *); (try unfold Kin at *); omega)⟩), rfl⟩
      · skip
        replace hb2_2 := hb2_2.1 rfl
        refine xl_pure rfl rfl rfl (pv_move (v := .bool _) rfl rfl) ?_
        refine xl_pure rfl rfl rfl (pv_fieldAddr rfl rfl) ?_
        refine xl_light rfl rfl rfl (lv_load (v := .int _ _) rfl rfl (by first | exact ld_blk hr rfl)) ?_
        refine xl_heavy rfl rfl rfl (hv_call (g := 30) rfl rfl (c30 _ _ _) rfl) ?_
        rintro v2_6 H2_6 ⟨r2_6, rfl, hb2_6, rfl⟩
        cases r2_6
        · skip
          replace hb2_6 := mt hb2_6.2 (by decide)
          refine xl_pure rfl rfl rfl (pv_pick_t (v := .bool _) rfl rfl rfl) ?_
          refine xl_pure rfl rfl rfl (pv_move (v := .bool _) rfl rfl) ?_
          refine xl_skip rfl rfl rfl ?_
          refine xl_skip rfl rfl rfl ?_
          refine xl_skip rfl rfl rfl ?_
          refine xl_pure rfl rfl rfl (pv_pick_f (v := .bool _) rfl rfl rfl) ?_
          refine xl_pure rfl rfl rfl (pv_move (v := .bool _) rfl rfl) ?_
          refine xl_skip rfl rfl rfl ?_
          refine xl_skip rfl rfl rfl ?_
          refine xl_skip rfl rfl rfl ?_
          refine xl_pure rfl rfl rfl (pv_pick_f (v := .bool _) rfl rfl rfl) ?_
          refine xl_pure rfl rfl rfl (pv_assign (v := .bool _) rfl rfl) ?_
          refine xl_nil ?_
          refine xthen_normal ?_
          exact ⟨_, ⟨rfl, rfl, rfl, trivial⟩, (by first | exact ⟨fun _ => by ((try unfold Stands at *); (try unfold Free at *); (try unfold Taken at *); (try unfold Due at *); (try unfold Who at *); (try unfold What at *); (try unfold Kin at *); omega), fun _ => rfl⟩ | exact ⟨fun h => absurd h (by decide), fun h => by ((try unfold Stands at *); (try unfold Free at *); (try unfold Taken at *); (try unfold Due at *); (try unfold Who at *); (try unfold What at *); (try unfold Kin at *); omega)⟩), rfl⟩
        · skip
          replace hb2_6 := hb2_6.1 rfl
          refine xl_pure rfl rfl rfl (pv_pick_t (v := .bool _) rfl rfl rfl) ?_
          refine xl_pure rfl rfl rfl (pv_move (v := .bool _) rfl rfl) ?_
          refine xl_pure rfl rfl rfl (pv_fieldAddr rfl rfl) ?_
          refine xl_light rfl rfl rfl (lv_load (v := .int _ _) rfl rfl (by first | exact ld_blk hr rfl)) ?_
          refine xl_heavy rfl rfl rfl (hv_call (g := 30) rfl rfl (c30 _ _ _) rfl) ?_
          rintro v2_11 H2_11 ⟨r2_11, rfl, hb2_11, rfl⟩
          cases r2_11
          · skip
            replace hb2_11 := mt hb2_11.2 (by decide)
            refine xl_pure rfl rfl rfl (pv_pick_t (v := .bool _) rfl rfl rfl) ?_
            refine xl_pure rfl rfl rfl (pv_move (v := .bool _) rfl rfl) ?_
            refine xl_skip rfl rfl rfl ?_
            refine xl_skip rfl rfl rfl ?_
            refine xl_skip rfl rfl rfl ?_
            refine xl_pure rfl rfl rfl (pv_pick_f (v := .bool _) rfl rfl rfl) ?_
            refine xl_pure rfl rfl rfl (pv_assign (v := .bool _) rfl rfl) ?_
            refine xl_nil ?_
            refine xthen_normal ?_
            exact ⟨_, ⟨rfl, rfl, rfl, trivial⟩, (by first | exact ⟨fun _ => by ((try unfold Stands at *); (try unfold Free at *); (try unfold Taken at *); (try unfold Due at *); (try unfold Who at *); (try unfold What at *); (try unfold Kin at *); omega), fun _ => rfl⟩ | exact ⟨fun h => absurd h (by decide), fun h => by ((try unfold Stands at *); (try unfold Free at *); (try unfold Taken at *); (try unfold Due at *); (try unfold Who at *); (try unfold What at *); (try unfold Kin at *); omega)⟩), rfl⟩
          · skip
            replace hb2_11 := hb2_11.1 rfl
            refine xl_pure rfl rfl rfl (pv_pick_t (v := .bool _) rfl rfl rfl) ?_
            refine xl_pure rfl rfl rfl (pv_move (v := .bool _) rfl rfl) ?_
            refine xl_pure rfl rfl rfl (pv_fieldAddr rfl rfl) ?_
            refine xl_light rfl rfl rfl (lv_load (v := .int _ _) rfl rfl (by first | exact ld_blk hr rfl)) ?_
            refine xl_heavy rfl rfl rfl (hv_call (g := 30) rfl rfl (c30 _ _ _) rfl) ?_
            rintro v2_16 H2_16 ⟨r2_16, rfl, hb2_16, rfl⟩
            cases r2_16
            · skip
              replace hb2_16 := mt hb2_16.2 (by decide)
              refine xl_pure rfl rfl rfl (pv_pick_t (v := .bool _) rfl rfl rfl) ?_
              refine xl_pure rfl rfl rfl (pv_assign (v := .bool _) rfl rfl) ?_
              refine xl_nil ?_
              refine xthen_normal ?_
              exact ⟨_, ⟨rfl, rfl, rfl, trivial⟩, (by first | exact ⟨fun _ => by ((try unfold Stands at *); (try unfold Free at *); (try unfold Taken at *); (try unfold Due at *); (try unfold Who at *); (try unfold What at *); (try unfold Kin at *); omega), fun _ => rfl⟩ | exact ⟨fun h => absurd h (by decide), fun h => by ((try unfold Stands at *); (try unfold Free at *); (try unfold Taken at *); (try unfold Due at *); (try unfold Who at *); (try unfold What at *); (try unfold Kin at *); omega)⟩), rfl⟩
            · skip
              replace hb2_16 := hb2_16.1 rfl
              refine xl_pure rfl rfl rfl (pv_pick_t (v := .bool _) rfl rfl rfl) ?_
              refine xl_pure rfl rfl rfl (pv_assign (v := .bool _) rfl rfl) ?_
              refine xl_nil ?_
              refine xthen_normal ?_
              exact ⟨_, ⟨rfl, rfl, rfl, trivial⟩, (by first | exact ⟨fun _ => by ((try unfold Stands at *); (try unfold Free at *); (try unfold Taken at *); (try unfold Due at *); (try unfold Who at *); (try unfold What at *); (try unfold Kin at *); omega), fun _ => rfl⟩ | exact ⟨fun h => absurd h (by decide), fun h => by ((try unfold Stands at *); (try unfold Free at *); (try unfold Taken at *); (try unfold Due at *); (try unfold Who at *); (try unfold What at *); (try unfold Kin at *); omega)⟩), rfl⟩
    · intro σ
      rintro wt Hm ⟨hwt, rfl⟩
      show XC _ _ _ (upds σ [(1, .pointer (some ⟨b0_0, 0, none⟩)), (3, .bool wh), (4, .bool wt)]) _
      refine xc_cut (τ := Bool) (fun t => [(1, .pointer (some ⟨b0_0, 0, none⟩)), (3, .bool wh), (4, .bool wt), (5, .bool t)]) (fun t H' => (t = true ↔ Lists d) ∧ Blk H' b0_0 (dcs d a b c e) 24 ∧ Ext H H') ?_ ?_
      · skip
        refine xc_region ?_
        refine xl_pure rfl rfl rfl (pv_fieldAddr rfl rfl) ?_
        refine xl_light rfl rfl rfl (lv_load (v := .slice _ _ _) rfl rfl (by first | exact ld_blk hr rfl)) ?_
        refine xl_heavy rfl rfl rfl (hv_call (g := 38) rfl rfl (gCheck d.gives a c 32 (hs.ext hX) (by omega)) rfl) ?_
        rintro v3_2 H3_2 ⟨e3_2, rfl, hg3_2, hE3_2⟩
        have hX := hX.trans hE3_2
        have hr := hr.ext hE3_2
        rcases hg3_2 with ⟨hg3_2, rfl⟩ | ⟨hg3_2, rfl⟩
        · skip
          refine xl_dec rfl rfl rfl (pv_eql rfl rfl rfl) (fun h3_3 => ?_) (fun h3_3 => ?_)
          · skip
            refine xl_pure rfl rfl rfl (pv_move (v := .bool _) rfl rfl) ?_
            refine xl_pure rfl rfl rfl (pv_fieldAddr rfl rfl) ?_
            refine xl_light rfl rfl rfl (lv_load (v := .slice _ _ _) rfl rfl (by first | exact ld_blk hr rfl)) ?_
            refine xl_heavy rfl rfl rfl (hv_call (g := 38) rfl rfl (gCheck d.wants b e 32 (hs'.ext hX) (by omega)) rfl) ?_
            rintro v3_7 H3_7 ⟨e3_7, rfl, hg3_7, hE3_7⟩
            have hX := hX.trans hE3_7
            have hr := hr.ext hE3_7
            rcases hg3_7 with ⟨hg3_7, rfl⟩ | ⟨hg3_7, rfl⟩
            · skip
              refine xl_dec rfl rfl rfl (pv_eql rfl rfl rfl) (fun h3_8 => ?_) (fun h3_8 => ?_)
              · skip
                refine xl_pure rfl rfl rfl (pv_pick_t (v := .bool _) rfl rfl rfl) ?_
                refine xl_pure rfl rfl rfl (pv_assign (v := .bool _) rfl rfl) ?_
                refine xl_nil ?_
                refine xthen_normal ?_
                refine ⟨_, ⟨rfl, rfl, rfl, rfl, trivial⟩, ?_, hr, hX⟩
                first
                  | exact ⟨fun _ => ⟨hg3_2, hg3_7⟩, fun _ => rfl⟩
                  | exact ⟨fun h => absurd h (by decide), fun h => absurd h.1 hg3_2⟩
                  | exact ⟨fun h => absurd h (by decide), fun h => absurd h.2 hg3_7⟩
              · exact absurd (by decide) h3_8
            · skip
              refine xl_dec rfl rfl rfl (pv_eql rfl rfl rfl) (fun h3_8 => ?_) (fun h3_8 => ?_)
              · exact absurd h3_8 (by decide)
              · skip
                refine xl_pure rfl rfl rfl (pv_pick_t (v := .bool _) rfl rfl rfl) ?_
                refine xl_pure rfl rfl rfl (pv_assign (v := .bool _) rfl rfl) ?_
                refine xl_nil ?_
                refine xthen_normal ?_
                refine ⟨_, ⟨rfl, rfl, rfl, rfl, trivial⟩, ?_, hr, hX⟩
                first
                  | exact ⟨fun _ => ⟨hg3_2, hg3_7⟩, fun _ => rfl⟩
                  | exact ⟨fun h => absurd h (by decide), fun h => absurd h.1 hg3_2⟩
                  | exact ⟨fun h => absurd h (by decide), fun h => absurd h.2 hg3_7⟩
          · exact absurd (by decide) h3_3
        · skip
          refine xl_dec rfl rfl rfl (pv_eql rfl rfl rfl) (fun h3_3 => ?_) (fun h3_3 => ?_)
          · exact absurd h3_3 (by decide)
          · skip
            refine xl_pure rfl rfl rfl (pv_move (v := .bool _) rfl rfl) ?_
            refine xl_skip rfl rfl rfl ?_
            refine xl_skip rfl rfl rfl ?_
            refine xl_skip rfl rfl rfl ?_
            refine xl_skip rfl rfl rfl ?_
            refine xl_pure rfl rfl rfl (pv_pick_f (v := .bool _) rfl rfl rfl) ?_
            refine xl_pure rfl rfl rfl (pv_assign (v := .bool _) rfl rfl) ?_
            refine xl_nil ?_
            refine xthen_normal ?_
            refine ⟨_, ⟨rfl, rfl, rfl, rfl, trivial⟩, ?_, hr, hX⟩
            first
              | exact ⟨fun _ => ⟨hg3_2, hg3_7⟩, fun _ => rfl⟩
              | exact ⟨fun h => absurd h (by decide), fun h => absurd h.1 hg3_2⟩
              | exact ⟨fun h => absurd h (by decide), fun h => absurd h.2 hg3_7⟩
      · intro σ
        clear hr hX
        rintro ls Hm3 ⟨hls, hr, hX⟩
        show XC _ _ _ (upds σ [(1, .pointer (some ⟨b0_0, 0, none⟩)), (3, .bool wh), (4, .bool wt), (5, .bool ls)]) _
        refine xc_seq ?_
        refine xc_region ?_
        refine xl_pure rfl rfl rfl (pv_assign (v := .bool _) rfl rfl) ?_
        refine xl_nil ?_
        refine xthen_normal ?_
        refine xc_cut (τ := Bool) (fun t => [(1, .pointer (some ⟨b0_0, 0, none⟩)), (3, .bool wh), (4, .bool wt), (5, .bool ls), (6, .bool t)]) (fun t H' => (t = true ↔ Kin d) ∧ Hm3 = H') ?_ ?_
        · skip
          refine xc_seq ?_
          refine xc_region ?_
          refine xl_pure rfl rfl rfl (pv_fieldAddr rfl rfl) ?_
          refine xl_light rfl rfl rfl (lv_load (v := .int _ _) rfl rfl (by first | exact ld_blk hr rfl)) ?_
          refine xl_nil ?_
          refine xthen_normal ?_
          refine xc_block ?_
          refine xc_seq ?_
          refine xc_region ?_
          refine xl_dec rfl rfl rfl (pv_eql rfl rfl rfl) (fun h6_0 => ?_) (fun h6_0 => ?_)
          · skip
            refine xl_pure rfl rfl rfl (pv_assign (v := .bool _) rfl rfl) ?_
            refine xl_nil ?_
            refine xthen_normal ?_
            refine xc_cond_t rfl ?_
            refine xc_region ?_
            refine xl_pure rfl rfl rfl (pv_fieldAddr rfl rfl) ?_
            refine xl_light rfl rfl rfl (lv_load (v := .int _ _) rfl rfl (by first | exact ld_blk hr rfl)) ?_
            refine xl_heavy rfl rfl rfl (hv_call (g := 30) rfl rfl (c30 _ _ _) rfl) ?_
            rintro v7_2 H7_2 ⟨r7_2, rfl, hb7_2, rfl⟩
            cases r7_2
            · skip
              replace hb7_2 := mt hb7_2.2 (by decide)
              refine xl_pure rfl rfl rfl (pv_move (v := .bool _) rfl rfl) ?_
              refine xl_skip rfl rfl rfl ?_
              refine xl_skip rfl rfl rfl ?_
              refine xl_skip rfl rfl rfl ?_
              refine xl_pure rfl rfl rfl (pv_pick_f (v := .bool _) rfl rfl rfl) ?_
              refine xl_pure rfl rfl rfl (pv_move (v := .bool _) rfl rfl) ?_
              refine xl_skip rfl rfl rfl ?_
              refine xl_skip rfl rfl rfl ?_
              refine xl_skip rfl rfl rfl ?_
              refine xl_pure rfl rfl rfl (pv_pick_f (v := .bool _) rfl rfl rfl) ?_
              refine xl_pure rfl rfl rfl (pv_move (v := .bool _) rfl rfl) ?_
              refine xl_skip rfl rfl rfl ?_
              refine xl_skip rfl rfl rfl ?_
              refine xl_skip rfl rfl rfl ?_
              refine xl_skip rfl rfl rfl ?_
              refine xl_pure rfl rfl rfl (pv_pick_f (v := .bool _) rfl rfl rfl) ?_
              refine xl_pure rfl rfl rfl (pv_move (v := .bool _) rfl rfl) ?_
              refine xl_skip rfl rfl rfl ?_
              refine xl_skip rfl rfl rfl ?_
              refine xl_skip rfl rfl rfl ?_
              refine xl_skip rfl rfl rfl ?_
              refine xl_pure rfl rfl rfl (pv_pick_f (v := .bool _) rfl rfl rfl) ?_
              refine xl_pure rfl rfl rfl (pv_assign (v := .bool _) rfl rfl) ?_
              refine xl_nil ?_
              refine xblock_normal ?_
              refine xthen_normal ?_
              exact ⟨_, ⟨rfl, rfl, rfl, rfl, rfl, trivial⟩, (by first | exact ⟨fun _ => by ((try unfold Stands at *); (try unfold Free at *); (try unfold Taken at *); (try unfold Due at *); (try unfold Who at *); (try unfold What at *); (try unfold Kin at *); omega), fun _ => rfl⟩ | exact ⟨fun h => absurd h (by decide), fun h => by ((try unfold Stands at *); (try unfold Free at *); (try unfold Taken at *); (try unfold Due at *); (try unfold Who at *); (try unfold What at *); (try unfold Kin at *); omega)⟩), rfl⟩
            · skip
              replace hb7_2 := hb7_2.1 rfl
              refine xl_pure rfl rfl rfl (pv_move (v := .bool _) rfl rfl) ?_
              refine xl_pure rfl rfl rfl (pv_fieldAddr rfl rfl) ?_
              refine xl_light rfl rfl rfl (lv_load (v := .int _ _) rfl rfl (by first | exact ld_blk hr rfl)) ?_
              refine xl_heavy rfl rfl rfl (hv_call (g := 30) rfl rfl (c30 _ _ _) rfl) ?_
              rintro v7_6 H7_6 ⟨r7_6, rfl, hb7_6, rfl⟩
              cases r7_6
              · skip
                replace hb7_6 := mt hb7_6.2 (by decide)
                refine xl_pure rfl rfl rfl (pv_pick_t (v := .bool _) rfl rfl rfl) ?_
                refine xl_pure rfl rfl rfl (pv_move (v := .bool _) rfl rfl) ?_
                refine xl_skip rfl rfl rfl ?_
                refine xl_skip rfl rfl rfl ?_
                refine xl_skip rfl rfl rfl ?_
                refine xl_pure rfl rfl rfl (pv_pick_f (v := .bool _) rfl rfl rfl) ?_
                refine xl_pure rfl rfl rfl (pv_move (v := .bool _) rfl rfl) ?_
                refine xl_skip rfl rfl rfl ?_
                refine xl_skip rfl rfl rfl ?_
                refine xl_skip rfl rfl rfl ?_
                refine xl_skip rfl rfl rfl ?_
                refine xl_pure rfl rfl rfl (pv_pick_f (v := .bool _) rfl rfl rfl) ?_
                refine xl_pure rfl rfl rfl (pv_move (v := .bool _) rfl rfl) ?_
                refine xl_skip rfl rfl rfl ?_
                refine xl_skip rfl rfl rfl ?_
                refine xl_skip rfl rfl rfl ?_
                refine xl_skip rfl rfl rfl ?_
                refine xl_pure rfl rfl rfl (pv_pick_f (v := .bool _) rfl rfl rfl) ?_
                refine xl_pure rfl rfl rfl (pv_assign (v := .bool _) rfl rfl) ?_
                refine xl_nil ?_
                refine xblock_normal ?_
                refine xthen_normal ?_
                exact ⟨_, ⟨rfl, rfl, rfl, rfl, rfl, trivial⟩, (by first | exact ⟨fun _ => by ((try unfold Stands at *); (try unfold Free at *); (try unfold Taken at *); (try unfold Due at *); (try unfold Who at *); (try unfold What at *); (try unfold Kin at *); omega), fun _ => rfl⟩ | exact ⟨fun h => absurd h (by decide), fun h => by ((try unfold Stands at *); (try unfold Free at *); (try unfold Taken at *); (try unfold Due at *); (try unfold Who at *); (try unfold What at *); (try unfold Kin at *); omega)⟩), rfl⟩
              · skip
                replace hb7_6 := hb7_6.1 rfl
                refine xl_pure rfl rfl rfl (pv_pick_t (v := .bool _) rfl rfl rfl) ?_
                refine xl_pure rfl rfl rfl (pv_move (v := .bool _) rfl rfl) ?_
                refine xl_pure rfl rfl rfl (pv_fieldAddr rfl rfl) ?_
                refine xl_light rfl rfl rfl (lv_load (v := .int _ _) rfl rfl (by first | exact ld_blk hr rfl)) ?_
                refine xl_heavy rfl rfl rfl (hv_call (g := 30) rfl rfl (c30 _ _ _) rfl) ?_
                rintro v7_11 H7_11 ⟨r7_11, rfl, hb7_11, rfl⟩
                cases r7_11
                · skip
                  replace hb7_11 := mt hb7_11.2 (by decide)
                  refine xl_pure rfl rfl rfl (pv_pick_t (v := .bool _) rfl rfl rfl) ?_
                  refine xl_pure rfl rfl rfl (pv_move (v := .bool _) rfl rfl) ?_
                  refine xl_skip rfl rfl rfl ?_
                  refine xl_skip rfl rfl rfl ?_
                  refine xl_skip rfl rfl rfl ?_
                  refine xl_skip rfl rfl rfl ?_
                  refine xl_pure rfl rfl rfl (pv_pick_f (v := .bool _) rfl rfl rfl) ?_
                  refine xl_pure rfl rfl rfl (pv_move (v := .bool _) rfl rfl) ?_
                  refine xl_skip rfl rfl rfl ?_
                  refine xl_skip rfl rfl rfl ?_
                  refine xl_skip rfl rfl rfl ?_
                  refine xl_skip rfl rfl rfl ?_
                  refine xl_pure rfl rfl rfl (pv_pick_f (v := .bool _) rfl rfl rfl) ?_
                  refine xl_pure rfl rfl rfl (pv_assign (v := .bool _) rfl rfl) ?_
                  refine xl_nil ?_
                  refine xblock_normal ?_
                  refine xthen_normal ?_
                  exact ⟨_, ⟨rfl, rfl, rfl, rfl, rfl, trivial⟩, (by first | exact ⟨fun _ => by ((try unfold Stands at *); (try unfold Free at *); (try unfold Taken at *); (try unfold Due at *); (try unfold Who at *); (try unfold What at *); (try unfold Kin at *); omega), fun _ => rfl⟩ | exact ⟨fun h => absurd h (by decide), fun h => by ((try unfold Stands at *); (try unfold Free at *); (try unfold Taken at *); (try unfold Due at *); (try unfold Who at *); (try unfold What at *); (try unfold Kin at *); omega)⟩), rfl⟩
                · skip
                  replace hb7_11 := hb7_11.1 rfl
                  refine xl_pure rfl rfl rfl (pv_pick_t (v := .bool _) rfl rfl rfl) ?_
                  refine xl_pure rfl rfl rfl (pv_move (v := .bool _) rfl rfl) ?_
                  refine xl_pure rfl rfl rfl (pv_fieldAddr rfl rfl) ?_
                  refine xl_light rfl rfl rfl (lv_load (v := .slice _ _ _) rfl rfl (by first | exact ld_blk hr rfl)) ?_
                  refine xl_pure rfl rfl rfl (pv_len_l rfl rfl) ?_
                  refine xl_dec rfl rfl rfl (pv_gtr rfl rfl rfl) (fun h7_17 => ?_) (fun h7_17 => ?_)
                  · skip
                    refine xl_pure rfl rfl rfl (pv_pick_t (v := .bool _) rfl rfl rfl) ?_
                    refine xl_pure rfl rfl rfl (pv_move (v := .bool _) rfl rfl) ?_
                    refine xl_pure rfl rfl rfl (pv_fieldAddr rfl rfl) ?_
                    refine xl_light rfl rfl rfl (lv_load (v := .slice _ _ _) rfl rfl (by first | exact ld_blk hr rfl)) ?_
                    refine xl_pure rfl rfl rfl (pv_len_l rfl rfl) ?_
                    refine xl_dec rfl rfl rfl (pv_eql rfl rfl rfl) (fun h7_23 => ?_) (fun h7_23 => ?_)
                    · skip
                      refine xl_pure rfl rfl rfl (pv_pick_t (v := .bool _) rfl rfl rfl) ?_
                      refine xl_pure rfl rfl rfl (pv_assign (v := .bool _) rfl rfl) ?_
                      refine xl_nil ?_
                      refine xblock_normal ?_
                      refine xthen_normal ?_
                      exact ⟨_, ⟨rfl, rfl, rfl, rfl, rfl, trivial⟩, (by first | exact ⟨fun _ => by ((try unfold Stands at *); (try unfold Free at *); (try unfold Taken at *); (try unfold Due at *); (try unfold Who at *); (try unfold What at *); (try unfold Kin at *); omega), fun _ => rfl⟩ | exact ⟨fun h => absurd h (by decide), fun h => by ((try unfold Stands at *); (try unfold Free at *); (try unfold Taken at *); (try unfold Due at *); (try unfold Who at *); (try unfold What at *); (try unfold Kin at *); omega)⟩), rfl⟩
                    · skip
                      refine xl_pure rfl rfl rfl (pv_pick_t (v := .bool _) rfl rfl rfl) ?_
                      refine xl_pure rfl rfl rfl (pv_assign (v := .bool _) rfl rfl) ?_
                      refine xl_nil ?_
                      refine xblock_normal ?_
                      refine xthen_normal ?_
                      exact ⟨_, ⟨rfl, rfl, rfl, rfl, rfl, trivial⟩, (by first | exact ⟨fun _ => by ((try unfold Stands at *); (try unfold Free at *); (try unfold Taken at *); (try unfold Due at *); (try unfold Who at *); (try unfold What at *); (try unfold Kin at *); omega), fun _ => rfl⟩ | exact ⟨fun h => absurd h (by decide), fun h => by ((try unfold Stands at *); (try unfold Free at *); (try unfold Taken at *); (try unfold Due at *); (try unfold Who at *); (try unfold What at *); (try unfold Kin at *); omega)⟩), rfl⟩
                  · skip
                    refine xl_pure rfl rfl rfl (pv_pick_t (v := .bool _) rfl rfl rfl) ?_
                    refine xl_pure rfl rfl rfl (pv_move (v := .bool _) rfl rfl) ?_
                    refine xl_skip rfl rfl rfl ?_
                    refine xl_skip rfl rfl rfl ?_
                    refine xl_skip rfl rfl rfl ?_
                    refine xl_skip rfl rfl rfl ?_
                    refine xl_pure rfl rfl rfl (pv_pick_f (v := .bool _) rfl rfl rfl) ?_
                    refine xl_pure rfl rfl rfl (pv_assign (v := .bool _) rfl rfl) ?_
                    refine xl_nil ?_
                    refine xblock_normal ?_
                    refine xthen_normal ?_
                    exact ⟨_, ⟨rfl, rfl, rfl, rfl, rfl, trivial⟩, (by first | exact ⟨fun _ => by ((try unfold Stands at *); (try unfold Free at *); (try unfold Taken at *); (try unfold Due at *); (try unfold Who at *); (try unfold What at *); (try unfold Kin at *); omega), fun _ => rfl⟩ | exact ⟨fun h => absurd h (by decide), fun h => by ((try unfold Stands at *); (try unfold Free at *); (try unfold Taken at *); (try unfold Due at *); (try unfold Who at *); (try unfold What at *); (try unfold Kin at *); omega)⟩), rfl⟩
          · skip
            refine xl_pure rfl rfl rfl (pv_assign (v := .bool _) rfl rfl) ?_
            refine xl_nil ?_
            refine xthen_normal ?_
            refine xc_cond_f rfl ?_
            refine xc_seq ?_
            refine xc_region ?_
            refine xl_dec rfl rfl rfl (pv_eql rfl rfl rfl) (fun h8_0 => ?_) (fun h8_0 => ?_)
            · skip
              refine xl_pure rfl rfl rfl (pv_assign (v := .bool _) rfl rfl) ?_
              refine xl_nil ?_
              refine xthen_normal ?_
              refine xc_cond_t rfl ?_
              refine xc_region ?_
              refine xl_pure rfl rfl rfl (pv_fieldAddr rfl rfl) ?_
              refine xl_light rfl rfl rfl (lv_load (v := .int _ _) rfl rfl (by first | exact ld_blk hr rfl)) ?_
              refine xl_pure rfl rfl rfl (pv_fieldAddr rfl rfl) ?_
              refine xl_light rfl rfl rfl (lv_load (v := .int _ _) rfl rfl (by first | exact ld_blk hr rfl)) ?_
              refine xl_pure rfl rfl rfl (pv_fieldAddr rfl rfl) ?_
              refine xl_light rfl rfl rfl (lv_load (v := .int _ _) rfl rfl (by first | exact ld_blk hr rfl)) ?_
              refine xl_pure rfl rfl rfl (pv_build_a (cs := [.int _ _, .int _ _, .int _ _]) rfl rfl rfl) ?_
              refine xl_pure rfl rfl rfl (pv_build_a (cs := [.int _ _, .int _ _, .int _ _]) rfl rfl rfl) ?_
              refine xl_dec rfl rfl rfl (pv_eql_ai [d.dest, d.days, d.pledge] [0, 0, 0] rfl rfl rfl rfl rfl) (fun h9_8 => ?_) (fun h9_8 => ?_)
              · skip
                simp only [List.cons.injEq, and_true] at h9_8
                refine xl_pure rfl rfl rfl (pv_move (v := .bool _) rfl rfl) ?_
                refine xl_pure rfl rfl rfl (pv_fieldAddr rfl rfl) ?_
                refine xl_light rfl rfl rfl (lv_load (v := .slice _ _ _) rfl rfl (by first | exact ld_blk hr rfl)) ?_
                refine xl_pure rfl rfl rfl (pv_len_l rfl rfl) ?_
                refine xl_pure rfl rfl rfl (pv_fieldAddr rfl rfl) ?_
                refine xl_light rfl rfl rfl (lv_load (v := .slice _ _ _) rfl rfl (by first | exact ld_blk hr rfl)) ?_
                refine xl_pure rfl rfl rfl (pv_len_l rfl rfl) ?_
                refine xl_pure rfl rfl rfl (pv_add rfl rfl rfl (fit_i64 (by omega))) ?_
                refine xl_dec rfl rfl rfl (pv_gtr rfl rfl rfl) (fun h9_17 => ?_) (fun h9_17 => ?_)
                · skip
                  refine xl_pure rfl rfl rfl (pv_pick_t (v := .bool _) rfl rfl rfl) ?_
                  refine xl_pure rfl rfl rfl (pv_assign (v := .bool _) rfl rfl) ?_
                  refine xl_nil ?_
                  refine xblock_normal ?_
                  refine xthen_normal ?_
                  exact ⟨_, ⟨rfl, rfl, rfl, rfl, rfl, trivial⟩, (by first | exact ⟨fun _ => by ((try unfold Stands at *); (try unfold Free at *); (try unfold Taken at *); (try unfold Due at *); (try unfold Who at *); (try unfold What at *); (try unfold Kin at *); omega), fun _ => rfl⟩ | exact ⟨fun h => absurd h (by decide), fun h => by ((try unfold Stands at *); (try unfold Free at *); (try unfold Taken at *); (try unfold Due at *); (try unfold Who at *); (try unfold What at *); (try unfold Kin at *); omega)⟩), rfl⟩
                · skip
                  refine xl_pure rfl rfl rfl (pv_pick_t (v := .bool _) rfl rfl rfl) ?_
                  refine xl_pure rfl rfl rfl (pv_assign (v := .bool _) rfl rfl) ?_
                  refine xl_nil ?_
                  refine xblock_normal ?_
                  refine xthen_normal ?_
                  exact ⟨_, ⟨rfl, rfl, rfl, rfl, rfl, trivial⟩, (by first | exact ⟨fun _ => by ((try unfold Stands at *); (try unfold Free at *); (try unfold Taken at *); (try unfold Due at *); (try unfold Who at *); (try unfold What at *); (try unfold Kin at *); omega), fun _ => rfl⟩ | exact ⟨fun h => absurd h (by decide), fun h => by ((try unfold Stands at *); (try unfold Free at *); (try unfold Taken at *); (try unfold Due at *); (try unfold Who at *); (try unfold What at *); (try unfold Kin at *); omega)⟩), rfl⟩
              · skip
                simp only [List.cons.injEq, and_true] at h9_8
                refine xl_pure rfl rfl rfl (pv_move (v := .bool _) rfl rfl) ?_
                refine xl_skip rfl rfl rfl ?_
                refine xl_skip rfl rfl rfl ?_
                refine xl_skip rfl rfl rfl ?_
                refine xl_skip rfl rfl rfl ?_
                refine xl_skip rfl rfl rfl ?_
                refine xl_skip rfl rfl rfl ?_
                refine xl_skip rfl rfl rfl ?_
                refine xl_skip rfl rfl rfl ?_
                refine xl_pure rfl rfl rfl (pv_pick_f (v := .bool _) rfl rfl rfl) ?_
                refine xl_pure rfl rfl rfl (pv_assign (v := .bool _) rfl rfl) ?_
                refine xl_nil ?_
                refine xblock_normal ?_
                refine xthen_normal ?_
                exact ⟨_, ⟨rfl, rfl, rfl, rfl, rfl, trivial⟩, (by first | exact ⟨fun _ => by ((try unfold Stands at *); (try unfold Free at *); (try unfold Taken at *); (try unfold Due at *); (try unfold Who at *); (try unfold What at *); (try unfold Kin at *); omega), fun _ => rfl⟩ | exact ⟨fun h => absurd h (by decide), fun h => by ((try unfold Stands at *); (try unfold Free at *); (try unfold Taken at *); (try unfold Due at *); (try unfold Who at *); (try unfold What at *); (try unfold Kin at *); omega)⟩), rfl⟩
            · skip
              refine xl_pure rfl rfl rfl (pv_assign (v := .bool _) rfl rfl) ?_
              refine xl_nil ?_
              refine xthen_normal ?_
              refine xc_cond_f rfl ?_
              refine xc_skip ?_
              refine xblock_normal ?_
              refine xthen_normal ?_
              exact ⟨_, ⟨rfl, rfl, rfl, rfl, rfl, trivial⟩, (by first | exact ⟨fun _ => by ((try unfold Stands at *); (try unfold Free at *); (try unfold Taken at *); (try unfold Due at *); (try unfold Who at *); (try unfold What at *); (try unfold Kin at *); omega), fun _ => rfl⟩ | exact ⟨fun h => absurd h (by decide), fun h => by ((try unfold Stands at *); (try unfold Free at *); (try unfold Taken at *); (try unfold Due at *); (try unfold Who at *); (try unfold What at *); (try unfold Kin at *); omega)⟩), rfl⟩
        · intro σ
          rintro kn Hm ⟨hkn, rfl⟩
          show XC _ _ _ (upds σ [(1, .pointer (some ⟨b0_0, 0, none⟩)), (3, .bool wh), (4, .bool wt), (5, .bool ls), (6, .bool kn)]) _
          refine xc_seq ?_
          refine xc_seq ?_
          refine xc_region ?_
          refine xl_pure rfl rfl rfl (pv_move (v := .bool _) rfl rfl) ?_
          cases wh
          · skip
            replace hwh := mt hwh.2 (by decide)
            refine xl_pure rfl rfl rfl (pv_move (v := .bool _) rfl rfl) ?_
            refine xl_skip rfl rfl rfl ?_
            refine xl_pure rfl rfl rfl (pv_pick_f (v := .bool _) rfl rfl rfl) ?_
            refine xl_pure rfl rfl rfl (pv_move (v := .bool _) rfl rfl) ?_
            refine xl_skip rfl rfl rfl ?_
            refine xl_pure rfl rfl rfl (pv_pick_f (v := .bool _) rfl rfl rfl) ?_
            refine xl_pure rfl rfl rfl (pv_move (v := .bool _) rfl rfl) ?_
            refine xl_skip rfl rfl rfl ?_
            refine xl_pure rfl rfl rfl (pv_pick_f (v := .bool _) rfl rfl rfl) ?_
            refine xl_pure rfl rfl rfl (pv_move (v := .bool _) rfl rfl) ?_
            refine xl_skip rfl rfl rfl ?_
            refine xl_skip rfl rfl rfl ?_
            refine xl_pure rfl rfl rfl (pv_pick_f (v := .bool _) rfl rfl rfl) ?_
            refine xl_nil ?_
            refine xthen_normal ?_
            refine xc_cond_f rfl ?_
            refine xc_skip ?_
            refine xthen_normal ?_
            refine xc_seq ?_
            refine xc_region ?_
            refine xl_pure rfl rfl rfl (pv_assign (v := .int _ _) rfl rfl) ?_
            refine xl_nil ?_
            refine xthen_normal ?_
            refine xc_ret ?_
            refine fin_ret (res1 (v := .int _ _) rfl rfl) ?_
            refine ⟨1, rfl, .inr ⟨fun h => ?_, rfl⟩, by first | exact hX | exact hX.trans hE10_12⟩
            first | exact hwh h.1 | exact hwt h.2.1 | exact hls h.2.2.1 | exact hkn h.2.2.2.1 | exact hb10_12 h.2.2.2.2
          · skip
            replace hwh := hwh.1 rfl
            refine xl_pure rfl rfl rfl (pv_move (v := .bool _) rfl rfl) ?_
            refine xl_pure rfl rfl rfl (pv_move (v := .bool _) rfl rfl) ?_
            cases wt
            · skip
              replace hwt := mt hwt.2 (by decide)
              refine xl_pure rfl rfl rfl (pv_pick_t (v := .bool _) rfl rfl rfl) ?_
              refine xl_pure rfl rfl rfl (pv_move (v := .bool _) rfl rfl) ?_
              refine xl_skip rfl rfl rfl ?_
              refine xl_pure rfl rfl rfl (pv_pick_f (v := .bool _) rfl rfl rfl) ?_
              refine xl_pure rfl rfl rfl (pv_move (v := .bool _) rfl rfl) ?_
              refine xl_skip rfl rfl rfl ?_
              refine xl_pure rfl rfl rfl (pv_pick_f (v := .bool _) rfl rfl rfl) ?_
              refine xl_pure rfl rfl rfl (pv_move (v := .bool _) rfl rfl) ?_
              refine xl_skip rfl rfl rfl ?_
              refine xl_skip rfl rfl rfl ?_
              refine xl_pure rfl rfl rfl (pv_pick_f (v := .bool _) rfl rfl rfl) ?_
              refine xl_nil ?_
              refine xthen_normal ?_
              refine xc_cond_f rfl ?_
              refine xc_skip ?_
              refine xthen_normal ?_
              refine xc_seq ?_
              refine xc_region ?_
              refine xl_pure rfl rfl rfl (pv_assign (v := .int _ _) rfl rfl) ?_
              refine xl_nil ?_
              refine xthen_normal ?_
              refine xc_ret ?_
              refine fin_ret (res1 (v := .int _ _) rfl rfl) ?_
              refine ⟨1, rfl, .inr ⟨fun h => ?_, rfl⟩, by first | exact hX | exact hX.trans hE10_12⟩
              first | exact hwh h.1 | exact hwt h.2.1 | exact hls h.2.2.1 | exact hkn h.2.2.2.1 | exact hb10_12 h.2.2.2.2
            · skip
              replace hwt := hwt.1 rfl
              refine xl_pure rfl rfl rfl (pv_pick_t (v := .bool _) rfl rfl rfl) ?_
              refine xl_pure rfl rfl rfl (pv_move (v := .bool _) rfl rfl) ?_
              refine xl_pure rfl rfl rfl (pv_move (v := .bool _) rfl rfl) ?_
              cases ls
              · skip
                replace hls := mt hls.2 (by decide)
                refine xl_pure rfl rfl rfl (pv_pick_t (v := .bool _) rfl rfl rfl) ?_
                refine xl_pure rfl rfl rfl (pv_move (v := .bool _) rfl rfl) ?_
                refine xl_skip rfl rfl rfl ?_
                refine xl_pure rfl rfl rfl (pv_pick_f (v := .bool _) rfl rfl rfl) ?_
                refine xl_pure rfl rfl rfl (pv_move (v := .bool _) rfl rfl) ?_
                refine xl_skip rfl rfl rfl ?_
                refine xl_skip rfl rfl rfl ?_
                refine xl_pure rfl rfl rfl (pv_pick_f (v := .bool _) rfl rfl rfl) ?_
                refine xl_nil ?_
                refine xthen_normal ?_
                refine xc_cond_f rfl ?_
                refine xc_skip ?_
                refine xthen_normal ?_
                refine xc_seq ?_
                refine xc_region ?_
                refine xl_pure rfl rfl rfl (pv_assign (v := .int _ _) rfl rfl) ?_
                refine xl_nil ?_
                refine xthen_normal ?_
                refine xc_ret ?_
                refine fin_ret (res1 (v := .int _ _) rfl rfl) ?_
                refine ⟨1, rfl, .inr ⟨fun h => ?_, rfl⟩, by first | exact hX | exact hX.trans hE10_12⟩
                first | exact hwh h.1 | exact hwt h.2.1 | exact hls h.2.2.1 | exact hkn h.2.2.2.1 | exact hb10_12 h.2.2.2.2
              · skip
                replace hls := hls.1 rfl
                refine xl_pure rfl rfl rfl (pv_pick_t (v := .bool _) rfl rfl rfl) ?_
                refine xl_pure rfl rfl rfl (pv_move (v := .bool _) rfl rfl) ?_
                refine xl_pure rfl rfl rfl (pv_move (v := .bool _) rfl rfl) ?_
                cases kn
                · skip
                  replace hkn := mt hkn.2 (by decide)
                  refine xl_pure rfl rfl rfl (pv_pick_t (v := .bool _) rfl rfl rfl) ?_
                  refine xl_pure rfl rfl rfl (pv_move (v := .bool _) rfl rfl) ?_
                  refine xl_skip rfl rfl rfl ?_
                  refine xl_skip rfl rfl rfl ?_
                  refine xl_pure rfl rfl rfl (pv_pick_f (v := .bool _) rfl rfl rfl) ?_
                  refine xl_nil ?_
                  refine xthen_normal ?_
                  refine xc_cond_f rfl ?_
                  refine xc_skip ?_
                  refine xthen_normal ?_
                  refine xc_seq ?_
                  refine xc_region ?_
                  refine xl_pure rfl rfl rfl (pv_assign (v := .int _ _) rfl rfl) ?_
                  refine xl_nil ?_
                  refine xthen_normal ?_
                  refine xc_ret ?_
                  refine fin_ret (res1 (v := .int _ _) rfl rfl) ?_
                  refine ⟨1, rfl, .inr ⟨fun h => ?_, rfl⟩, by first | exact hX | exact hX.trans hE10_12⟩
                  first | exact hwh h.1 | exact hwt h.2.1 | exact hls h.2.2.1 | exact hkn h.2.2.2.1 | exact hb10_12 h.2.2.2.2
                · skip
                  replace hkn := hkn.1 rfl
                  refine xl_pure rfl rfl rfl (pv_pick_t (v := .bool _) rfl rfl rfl) ?_
                  refine xl_pure rfl rfl rfl (pv_move (v := .bool _) rfl rfl) ?_
                  refine xl_light rfl rfl rfl (lv_load (v := .agg _) rfl rfl (by first | exact ld_blk_a hr rfl rfl)) ?_
                  refine xl_heavy rfl rfl rfl (hv_call (g := 39) rfl rfl (c39 d a b c e) rfl) ?_
                  rintro v10_12 H10_12 ⟨r10_12, rfl, hb10_12, hE10_12⟩
                  cases r10_12
                  · skip
                    replace hb10_12 := mt hb10_12.2 (by decide)
                    refine xl_pure rfl rfl rfl (pv_pick_t (v := .bool _) rfl rfl rfl) ?_
                    refine xl_nil ?_
                    refine xthen_normal ?_
                    refine xc_cond_f rfl ?_
                    refine xc_skip ?_
                    refine xthen_normal ?_
                    refine xc_seq ?_
                    refine xc_region ?_
                    refine xl_pure rfl rfl rfl (pv_assign (v := .int _ _) rfl rfl) ?_
                    refine xl_nil ?_
                    refine xthen_normal ?_
                    refine xc_ret ?_
                    refine fin_ret (res1 (v := .int _ _) rfl rfl) ?_
                    refine ⟨1, rfl, .inr ⟨fun h => ?_, rfl⟩, by first | exact hX | exact hX.trans hE10_12⟩
                    first | exact hwh h.1 | exact hwt h.2.1 | exact hls h.2.2.1 | exact hkn h.2.2.2.1 | exact hb10_12 h.2.2.2.2
                  · skip
                    replace hb10_12 := hb10_12.1 rfl
                    refine xl_pure rfl rfl rfl (pv_pick_t (v := .bool _) rfl rfl rfl) ?_
                    refine xl_nil ?_
                    refine xthen_normal ?_
                    refine xc_cond_t rfl ?_
                    refine xc_seq ?_
                    refine xc_region ?_
                    refine xl_pure rfl rfl rfl (pv_assign (v := .int _ _) rfl rfl) ?_
                    refine xl_nil ?_
                    refine xthen_normal ?_
                    refine xc_ret ?_
                    refine xthen_ret ?_
                    refine fin_ret (res1 (v := .int _ _) rfl rfl) ?_
                    exact ⟨0, rfl, .inl ⟨⟨hwh, hwt, hls, hkn, hb10_12⟩, rfl⟩, hX.trans hE10_12⟩

theorem c21 {O : Outer} {H : Heap} (d : D) (a b : Option Addr) (c e : Nat) (hs : Stks H a d.gives) (hs' : Stks H b d.wants) (hl : d.gives.length < 1099511627776) (hl' : d.wants.length < 1099511627776) :
    FnC Try.prog 21 #[.agg (dcs d a b c e).toArray] O H (fun v H' => ∃ e, v = .int .i64 e ∧ (Good d ∧ e = 0 ∨ ¬ Good d ∧ e = 1) ∧ Ext H H') := by
  refine fn_enter (A := [.agg (dcs d a b c e).toArray]) Try.func21 rfl rfl ?_
  refine xc_seq ?_
  refine xc_region ?_
  refine xl_heavy rfl rfl rfl (hv_box rfl rfl) ?_
  rintro v0_0 H0_0 ⟨b0_0, rfl, hN0_0⟩
  have hr := hN0_0.blk
  have hX := hN0_0.ext
  refine xl_pure rfl rfl rfl (pv_assign (v := .int _ _) rfl rfl) ?_
  refine xl_nil ?_
  refine xthen_normal ?_
  refine xc_cut (τ := Bool) (fun t => [(1, .pointer (some ⟨b0_0, 0, none⟩)), (3, .bool t)]) (fun t H' => (t = true ↔ Who d) ∧ H0_0 = H') ?_ ?_
  · skip
    refine xc_region ?_
    refine xl_pure rfl rfl rfl (pv_fieldAddr rfl rfl) ?_
    refine xl_light rfl rfl rfl (lv_load (v := .int _ _) rfl rfl (by first | exact ld_blk hr rfl)) ?_
    refine xl_heavy rfl rfl rfl (hv_call (g := 31) rfl rfl (c31 _ _ _) rfl) ?_
    rintro v1_2 H1_2 ⟨r1_2, rfl, hb1_2, rfl⟩
    cases r1_2
    · skip
      replace hb1_2 := mt hb1_2.2 (by decide)
      refine xl_pure rfl rfl rfl (pv_move (v := .bool _) rfl rfl) ?_
      refine xl_skip rfl rfl rfl ?_
      refine xl_skip rfl rfl rfl ?_
      refine xl_skip rfl rfl rfl ?_
      refine xl_pure rfl rfl rfl (pv_pick_f (v := .bool _) rfl rfl rfl) ?_
      refine xl_pure rfl rfl rfl (pv_move (v := .bool _) rfl rfl) ?_
      refine xl_skip rfl rfl rfl ?_
      refine xl_skip rfl rfl rfl ?_
      refine xl_skip rfl rfl rfl ?_
      refine xl_pure rfl rfl rfl (pv_pick_f (v := .bool _) rfl rfl rfl) ?_
      refine xl_pure rfl rfl rfl (pv_move (v := .bool _) rfl rfl) ?_
      refine xl_skip rfl rfl rfl ?_
      refine xl_skip rfl rfl rfl ?_
      refine xl_skip rfl rfl rfl ?_
      refine xl_pure rfl rfl rfl (pv_pick_f (v := .bool _) rfl rfl rfl) ?_
      refine xl_pure rfl rfl rfl (pv_move (v := .bool _) rfl rfl) ?_
      refine xl_skip rfl rfl rfl ?_
      refine xl_skip rfl rfl rfl ?_
      refine xl_skip rfl rfl rfl ?_
      refine xl_pure rfl rfl rfl (pv_pick_f (v := .bool _) rfl rfl rfl) ?_
      refine xl_pure rfl rfl rfl (pv_move (v := .bool _) rfl rfl) ?_
      refine xl_skip rfl rfl rfl ?_
      refine xl_skip rfl rfl rfl ?_
      refine xl_skip rfl rfl rfl ?_
      refine xl_skip rfl rfl rfl ?_
      refine xl_skip rfl rfl rfl ?_
      refine xl_pure rfl rfl rfl (pv_pick_f (v := .bool _) rfl rfl rfl) ?_
      refine xl_pure rfl rfl rfl (pv_assign (v := .bool _) rfl rfl) ?_
      refine xl_nil ?_
      refine xthen_normal ?_
      exact ⟨_, ⟨rfl, rfl, trivial⟩, (by first | exact ⟨fun _ => by ((try unfold Stands at *); (try unfold Free at *); (try unfold Taken at *); (try unfold Due at *); (try unfold Who at *); (try unfold What at *); (try unfold Kin at *); omega), fun _ => rfl⟩ | exact ⟨fun h => absurd h (by decide), fun h => by ((try unfold Stands at *); (try unfold Free at *); (try unfold Taken at *); (try unfold Due at *); (try unfold Who at *); (try unfold What at *); (try unfold Kin at *); omega)⟩), rfl⟩
    · skip
      replace hb1_2 := hb1_2.1 rfl
      refine xl_pure rfl rfl rfl (pv_move (v := .bool _) rfl rfl) ?_
      refine xl_pure rfl rfl rfl (pv_fieldAddr rfl rfl) ?_
      refine xl_light rfl rfl rfl (lv_load (v := .int _ _) rfl rfl (by first | exact ld_blk hr rfl)) ?_
      refine xl_heavy rfl rfl rfl (hv_call (g := 31) rfl rfl (c31 _ _ _) rfl) ?_
      rintro v1_6 H1_6 ⟨r1_6, rfl, hb1_6, rfl⟩
      cases r1_6
      · skip
        replace hb1_6 := mt hb1_6.2 (by decide)
        refine xl_pure rfl rfl rfl (pv_pick_t (v := .bool _) rfl rfl rfl) ?_
        refine xl_pure rfl rfl rfl (pv_move (v := .bool _) rfl rfl) ?_
        refine xl_skip rfl rfl rfl ?_
        refine xl_skip rfl rfl rfl ?_
        refine xl_skip rfl rfl rfl ?_
        refine xl_pure rfl rfl rfl (pv_pick_f (v := .bool _) rfl rfl rfl) ?_
        refine xl_pure rfl rfl rfl (pv_move (v := .bool _) rfl rfl) ?_
        refine xl_skip rfl rfl rfl ?_
        refine xl_skip rfl rfl rfl ?_
        refine xl_skip rfl rfl rfl ?_
        refine xl_pure rfl rfl rfl (pv_pick_f (v := .bool _) rfl rfl rfl) ?_
        refine xl_pure rfl rfl rfl (pv_move (v := .bool _) rfl rfl) ?_
        refine xl_skip rfl rfl rfl ?_
        refine xl_skip rfl rfl rfl ?_
        refine xl_skip rfl rfl rfl ?_
        refine xl_pure rfl rfl rfl (pv_pick_f (v := .bool _) rfl rfl rfl) ?_
        refine xl_pure rfl rfl rfl (pv_move (v := .bool _) rfl rfl) ?_
        refine xl_skip rfl rfl rfl ?_
        refine xl_skip rfl rfl rfl ?_
        refine xl_skip rfl rfl rfl ?_
        refine xl_skip rfl rfl rfl ?_
        refine xl_skip rfl rfl rfl ?_
        refine xl_pure rfl rfl rfl (pv_pick_f (v := .bool _) rfl rfl rfl) ?_
        refine xl_pure rfl rfl rfl (pv_assign (v := .bool _) rfl rfl) ?_
        refine xl_nil ?_
        refine xthen_normal ?_
        exact ⟨_, ⟨rfl, rfl, trivial⟩, (by first | exact ⟨fun _ => by ((try unfold Stands at *); (try unfold Free at *); (try unfold Taken at *); (try unfold Due at *); (try unfold Who at *); (try unfold What at *); (try unfold Kin at *); omega), fun _ => rfl⟩ | exact ⟨fun h => absurd h (by decide), fun h => by ((try unfold Stands at *); (try unfold Free at *); (try unfold Taken at *); (try unfold Due at *); (try unfold Who at *); (try unfold What at *); (try unfold Kin at *); omega)⟩), rfl⟩
      · skip
        replace hb1_6 := hb1_6.1 rfl
        refine xl_pure rfl rfl rfl (pv_pick_t (v := .bool _) rfl rfl rfl) ?_
        refine xl_pure rfl rfl rfl (pv_move (v := .bool _) rfl rfl) ?_
        refine xl_pure rfl rfl rfl (pv_fieldAddr rfl rfl) ?_
        refine xl_light rfl rfl rfl (lv_load (v := .int _ _) rfl rfl (by first | exact ld_blk hr rfl)) ?_
        refine xl_heavy rfl rfl rfl (hv_call (g := 31) rfl rfl (c31 _ _ _) rfl) ?_
        rintro v1_11 H1_11 ⟨r1_11, rfl, hb1_11, rfl⟩
        cases r1_11
        · skip
          replace hb1_11 := mt hb1_11.2 (by decide)
          refine xl_pure rfl rfl rfl (pv_pick_t (v := .bool _) rfl rfl rfl) ?_
          refine xl_pure rfl rfl rfl (pv_move (v := .bool _) rfl rfl) ?_
          refine xl_skip rfl rfl rfl ?_
          refine xl_skip rfl rfl rfl ?_
          refine xl_skip rfl rfl rfl ?_
          refine xl_pure rfl rfl rfl (pv_pick_f (v := .bool _) rfl rfl rfl) ?_
          refine xl_pure rfl rfl rfl (pv_move (v := .bool _) rfl rfl) ?_
          refine xl_skip rfl rfl rfl ?_
          refine xl_skip rfl rfl rfl ?_
          refine xl_skip rfl rfl rfl ?_
          refine xl_pure rfl rfl rfl (pv_pick_f (v := .bool _) rfl rfl rfl) ?_
          refine xl_pure rfl rfl rfl (pv_move (v := .bool _) rfl rfl) ?_
          refine xl_skip rfl rfl rfl ?_
          refine xl_skip rfl rfl rfl ?_
          refine xl_skip rfl rfl rfl ?_
          refine xl_skip rfl rfl rfl ?_
          refine xl_skip rfl rfl rfl ?_
          refine xl_pure rfl rfl rfl (pv_pick_f (v := .bool _) rfl rfl rfl) ?_
          refine xl_pure rfl rfl rfl (pv_assign (v := .bool _) rfl rfl) ?_
          refine xl_nil ?_
          refine xthen_normal ?_
          exact ⟨_, ⟨rfl, rfl, trivial⟩, (by first | exact ⟨fun _ => by ((try unfold Stands at *); (try unfold Free at *); (try unfold Taken at *); (try unfold Due at *); (try unfold Who at *); (try unfold What at *); (try unfold Kin at *); omega), fun _ => rfl⟩ | exact ⟨fun h => absurd h (by decide), fun h => by ((try unfold Stands at *); (try unfold Free at *); (try unfold Taken at *); (try unfold Due at *); (try unfold Who at *); (try unfold What at *); (try unfold Kin at *); omega)⟩), rfl⟩
        · skip
          replace hb1_11 := hb1_11.1 rfl
          refine xl_pure rfl rfl rfl (pv_pick_t (v := .bool _) rfl rfl rfl) ?_
          refine xl_pure rfl rfl rfl (pv_move (v := .bool _) rfl rfl) ?_
          refine xl_pure rfl rfl rfl (pv_fieldAddr rfl rfl) ?_
          refine xl_light rfl rfl rfl (lv_load (v := .int _ _) rfl rfl (by first | exact ld_blk hr rfl)) ?_
          refine xl_heavy rfl rfl rfl (hv_call (g := 31) rfl rfl (c31 _ _ _) rfl) ?_
          rintro v1_16 H1_16 ⟨r1_16, rfl, hb1_16, rfl⟩
          cases r1_16
          · skip
            replace hb1_16 := mt hb1_16.2 (by decide)
            refine xl_pure rfl rfl rfl (pv_pick_t (v := .bool _) rfl rfl rfl) ?_
            refine xl_pure rfl rfl rfl (pv_move (v := .bool _) rfl rfl) ?_
            refine xl_skip rfl rfl rfl ?_
            refine xl_skip rfl rfl rfl ?_
            refine xl_skip rfl rfl rfl ?_
            refine xl_pure rfl rfl rfl (pv_pick_f (v := .bool _) rfl rfl rfl) ?_
            refine xl_pure rfl rfl rfl (pv_move (v := .bool _) rfl rfl) ?_
            refine xl_skip rfl rfl rfl ?_
            refine xl_skip rfl rfl rfl ?_
            refine xl_skip rfl rfl rfl ?_
            refine xl_skip rfl rfl rfl ?_
            refine xl_skip rfl rfl rfl ?_
            refine xl_pure rfl rfl rfl (pv_pick_f (v := .bool _) rfl rfl rfl) ?_
            refine xl_pure rfl rfl rfl (pv_assign (v := .bool _) rfl rfl) ?_
            refine xl_nil ?_
            refine xthen_normal ?_
            exact ⟨_, ⟨rfl, rfl, trivial⟩, (by first | exact ⟨fun _ => by ((try unfold Stands at *); (try unfold Free at *); (try unfold Taken at *); (try unfold Due at *); (try unfold Who at *); (try unfold What at *); (try unfold Kin at *); omega), fun _ => rfl⟩ | exact ⟨fun h => absurd h (by decide), fun h => by ((try unfold Stands at *); (try unfold Free at *); (try unfold Taken at *); (try unfold Due at *); (try unfold Who at *); (try unfold What at *); (try unfold Kin at *); omega)⟩), rfl⟩
          · skip
            replace hb1_16 := hb1_16.1 rfl
            refine xl_pure rfl rfl rfl (pv_pick_t (v := .bool _) rfl rfl rfl) ?_
            refine xl_pure rfl rfl rfl (pv_move (v := .bool _) rfl rfl) ?_
            refine xl_pure rfl rfl rfl (pv_fieldAddr rfl rfl) ?_
            refine xl_light rfl rfl rfl (lv_load (v := .int _ _) rfl rfl (by first | exact ld_blk hr rfl)) ?_
            refine xl_heavy rfl rfl rfl (hv_call (g := 31) rfl rfl (c31 _ _ _) rfl) ?_
            rintro v1_21 H1_21 ⟨r1_21, rfl, hb1_21, rfl⟩
            cases r1_21
            · skip
              replace hb1_21 := mt hb1_21.2 (by decide)
              refine xl_pure rfl rfl rfl (pv_pick_t (v := .bool _) rfl rfl rfl) ?_
              refine xl_pure rfl rfl rfl (pv_move (v := .bool _) rfl rfl) ?_
              refine xl_skip rfl rfl rfl ?_
              refine xl_skip rfl rfl rfl ?_
              refine xl_skip rfl rfl rfl ?_
              refine xl_skip rfl rfl rfl ?_
              refine xl_skip rfl rfl rfl ?_
              refine xl_pure rfl rfl rfl (pv_pick_f (v := .bool _) rfl rfl rfl) ?_
              refine xl_pure rfl rfl rfl (pv_assign (v := .bool _) rfl rfl) ?_
              refine xl_nil ?_
              refine xthen_normal ?_
              exact ⟨_, ⟨rfl, rfl, trivial⟩, (by first | exact ⟨fun _ => by ((try unfold Stands at *); (try unfold Free at *); (try unfold Taken at *); (try unfold Due at *); (try unfold Who at *); (try unfold What at *); (try unfold Kin at *); omega), fun _ => rfl⟩ | exact ⟨fun h => absurd h (by decide), fun h => by ((try unfold Stands at *); (try unfold Free at *); (try unfold Taken at *); (try unfold Due at *); (try unfold Who at *); (try unfold What at *); (try unfold Kin at *); omega)⟩), rfl⟩
            · skip
              replace hb1_21 := hb1_21.1 rfl
              refine xl_pure rfl rfl rfl (pv_pick_t (v := .bool _) rfl rfl rfl) ?_
              refine xl_pure rfl rfl rfl (pv_move (v := .bool _) rfl rfl) ?_
              refine xl_pure rfl rfl rfl (pv_fieldAddr rfl rfl) ?_
              refine xl_light rfl rfl rfl (lv_load (v := .int _ _) rfl rfl (by first | exact ld_blk hr rfl)) ?_
              refine xl_pure rfl rfl rfl (pv_fieldAddr rfl rfl) ?_
              refine xl_light rfl rfl rfl (lv_load (v := .int _ _) rfl rfl (by first | exact ld_blk hr rfl)) ?_
              refine xl_ndec rfl rfl rfl (pv_neq rfl rfl rfl) (fun h1_28 => ?_) (fun h1_28 => ?_)
              · skip
                refine xl_pure rfl rfl rfl (pv_pick_t (v := .bool _) rfl rfl rfl) ?_
                refine xl_pure rfl rfl rfl (pv_assign (v := .bool _) rfl rfl) ?_
                refine xl_nil ?_
                refine xthen_normal ?_
                exact ⟨_, ⟨rfl, rfl, trivial⟩, (by first | exact ⟨fun _ => by ((try unfold Stands at *); (try unfold Free at *); (try unfold Taken at *); (try unfold Due at *); (try unfold Who at *); (try unfold What at *); (try unfold Kin at *); omega), fun _ => rfl⟩ | exact ⟨fun h => absurd h (by decide), fun h => by ((try unfold Stands at *); (try unfold Free at *); (try unfold Taken at *); (try unfold Due at *); (try unfold Who at *); (try unfold What at *); (try unfold Kin at *); omega)⟩), rfl⟩
              · skip
                refine xl_pure rfl rfl rfl (pv_pick_t (v := .bool _) rfl rfl rfl) ?_
                refine xl_pure rfl rfl rfl (pv_assign (v := .bool _) rfl rfl) ?_
                refine xl_nil ?_
                refine xthen_normal ?_
                exact ⟨_, ⟨rfl, rfl, trivial⟩, (by first | exact ⟨fun _ => by ((try unfold Stands at *); (try unfold Free at *); (try unfold Taken at *); (try unfold Due at *); (try unfold Who at *); (try unfold What at *); (try unfold Kin at *); omega), fun _ => rfl⟩ | exact ⟨fun h => absurd h (by decide), fun h => by ((try unfold Stands at *); (try unfold Free at *); (try unfold Taken at *); (try unfold Due at *); (try unfold Who at *); (try unfold What at *); (try unfold Kin at *); omega)⟩), rfl⟩
  · intro σ
    rintro wh Hm ⟨hwh, rfl⟩
    show XC _ _ _ (upds σ [(1, .pointer (some ⟨b0_0, 0, none⟩)), (3, .bool wh)]) _
    refine xc_cut (τ := Bool) (fun t => [(1, .pointer (some ⟨b0_0, 0, none⟩)), (3, .bool t)]) (fun t H' => (t = true ↔ Who d ∧ What d) ∧ H0_0 = H') ?_ ?_
    · skip
      refine xc_region ?_
      refine xl_pure rfl rfl rfl (pv_move (v := .bool _) rfl rfl) ?_
      cases wh
      · skip
        replace hwh := mt hwh.2 (by decide)
        refine xl_pure rfl rfl rfl (pv_move (v := .bool _) rfl rfl) ?_
        refine xl_skip rfl rfl rfl ?_
        refine xl_skip rfl rfl rfl ?_
        refine xl_skip rfl rfl rfl ?_
        refine xl_pure rfl rfl rfl (pv_pick_f (v := .bool _) rfl rfl rfl) ?_
        refine xl_pure rfl rfl rfl (pv_move (v := .bool _) rfl rfl) ?_
        refine xl_skip rfl rfl rfl ?_
        refine xl_skip rfl rfl rfl ?_
        refine xl_skip rfl rfl rfl ?_
        refine xl_pure rfl rfl rfl (pv_pick_f (v := .bool _) rfl rfl rfl) ?_
        refine xl_pure rfl rfl rfl (pv_move (v := .bool _) rfl rfl) ?_
        refine xl_skip rfl rfl rfl ?_
        refine xl_skip rfl rfl rfl ?_
        refine xl_skip rfl rfl rfl ?_
        refine xl_pure rfl rfl rfl (pv_pick_f (v := .bool _) rfl rfl rfl) ?_
        refine xl_pure rfl rfl rfl (pv_move (v := .bool _) rfl rfl) ?_
        refine xl_skip rfl rfl rfl ?_
        refine xl_skip rfl rfl rfl ?_
        refine xl_skip rfl rfl rfl ?_
        refine xl_pure rfl rfl rfl (pv_pick_f (v := .bool _) rfl rfl rfl) ?_
        refine xl_pure rfl rfl rfl (pv_assign (v := .bool _) rfl rfl) ?_
        refine xl_nil ?_
        refine xthen_normal ?_
        exact ⟨_, ⟨rfl, rfl, trivial⟩, (by first | exact ⟨fun _ => by ((try unfold Stands at *); (try unfold Free at *); (try unfold Taken at *); (try unfold Due at *); (try unfold Who at *); (try unfold What at *); (try unfold Kin at *); omega), fun _ => rfl⟩ | exact ⟨fun h => absurd h (by decide), fun h => by ((try unfold Stands at *); (try unfold Free at *); (try unfold Taken at *); (try unfold Due at *); (try unfold Who at *); (try unfold What at *); (try unfold Kin at *); omega)⟩), rfl⟩
      · skip
        replace hwh := hwh.1 rfl
        refine xl_pure rfl rfl rfl (pv_move (v := .bool _) rfl rfl) ?_
        refine xl_pure rfl rfl rfl (pv_fieldAddr rfl rfl) ?_
        refine xl_light rfl rfl rfl (lv_load (v := .int _ _) rfl rfl (by first | exact ld_blk hr rfl)) ?_
        refine xl_heavy rfl rfl rfl (hv_call (g := 31) rfl rfl (c31 _ _ _) rfl) ?_
        rintro v2_4 H2_4 ⟨r2_4, rfl, hb2_4, rfl⟩
        cases r2_4
        · skip
          replace hb2_4 := mt hb2_4.2 (by decide)
          refine xl_pure rfl rfl rfl (pv_pick_t (v := .bool _) rfl rfl rfl) ?_
          refine xl_pure rfl rfl rfl (pv_move (v := .bool _) rfl rfl) ?_
          refine xl_skip rfl rfl rfl ?_
          refine xl_skip rfl rfl rfl ?_
          refine xl_skip rfl rfl rfl ?_
          refine xl_pure rfl rfl rfl (pv_pick_f (v := .bool _) rfl rfl rfl) ?_
          refine xl_pure rfl rfl rfl (pv_move (v := .bool _) rfl rfl) ?_
          refine xl_skip rfl rfl rfl ?_
          refine xl_skip rfl rfl rfl ?_
          refine xl_skip rfl rfl rfl ?_
          refine xl_pure rfl rfl rfl (pv_pick_f (v := .bool _) rfl rfl rfl) ?_
          refine xl_pure rfl rfl rfl (pv_move (v := .bool _) rfl rfl) ?_
          refine xl_skip rfl rfl rfl ?_
          refine xl_skip rfl rfl rfl ?_
          refine xl_skip rfl rfl rfl ?_
          refine xl_pure rfl rfl rfl (pv_pick_f (v := .bool _) rfl rfl rfl) ?_
          refine xl_pure rfl rfl rfl (pv_assign (v := .bool _) rfl rfl) ?_
          refine xl_nil ?_
          refine xthen_normal ?_
          exact ⟨_, ⟨rfl, rfl, trivial⟩, (by first | exact ⟨fun _ => by ((try unfold Stands at *); (try unfold Free at *); (try unfold Taken at *); (try unfold Due at *); (try unfold Who at *); (try unfold What at *); (try unfold Kin at *); omega), fun _ => rfl⟩ | exact ⟨fun h => absurd h (by decide), fun h => by ((try unfold Stands at *); (try unfold Free at *); (try unfold Taken at *); (try unfold Due at *); (try unfold Who at *); (try unfold What at *); (try unfold Kin at *); omega)⟩), rfl⟩
        · skip
          replace hb2_4 := hb2_4.1 rfl
          refine xl_pure rfl rfl rfl (pv_pick_t (v := .bool _) rfl rfl rfl) ?_
          refine xl_pure rfl rfl rfl (pv_move (v := .bool _) rfl rfl) ?_
          refine xl_pure rfl rfl rfl (pv_fieldAddr rfl rfl) ?_
          refine xl_light rfl rfl rfl (lv_load (v := .int _ _) rfl rfl (by first | exact ld_blk hr rfl)) ?_
          refine xl_heavy rfl rfl rfl (hv_call (g := 31) rfl rfl (c31 _ _ _) rfl) ?_
          rintro v2_9 H2_9 ⟨r2_9, rfl, hb2_9, rfl⟩
          cases r2_9
          · skip
            replace hb2_9 := mt hb2_9.2 (by decide)
            refine xl_pure rfl rfl rfl (pv_pick_t (v := .bool _) rfl rfl rfl) ?_
            refine xl_pure rfl rfl rfl (pv_move (v := .bool _) rfl rfl) ?_
            refine xl_skip rfl rfl rfl ?_
            refine xl_skip rfl rfl rfl ?_
            refine xl_skip rfl rfl rfl ?_
            refine xl_pure rfl rfl rfl (pv_pick_f (v := .bool _) rfl rfl rfl) ?_
            refine xl_pure rfl rfl rfl (pv_move (v := .bool _) rfl rfl) ?_
            refine xl_skip rfl rfl rfl ?_
            refine xl_skip rfl rfl rfl ?_
            refine xl_skip rfl rfl rfl ?_
            refine xl_pure rfl rfl rfl (pv_pick_f (v := .bool _) rfl rfl rfl) ?_
            refine xl_pure rfl rfl rfl (pv_assign (v := .bool _) rfl rfl) ?_
            refine xl_nil ?_
            refine xthen_normal ?_
            exact ⟨_, ⟨rfl, rfl, trivial⟩, (by first | exact ⟨fun _ => by ((try unfold Stands at *); (try unfold Free at *); (try unfold Taken at *); (try unfold Due at *); (try unfold Who at *); (try unfold What at *); (try unfold Kin at *); omega), fun _ => rfl⟩ | exact ⟨fun h => absurd h (by decide), fun h => by ((try unfold Stands at *); (try unfold Free at *); (try unfold Taken at *); (try unfold Due at *); (try unfold Who at *); (try unfold What at *); (try unfold Kin at *); omega)⟩), rfl⟩
          · skip
            replace hb2_9 := hb2_9.1 rfl
            refine xl_pure rfl rfl rfl (pv_pick_t (v := .bool _) rfl rfl rfl) ?_
            refine xl_pure rfl rfl rfl (pv_move (v := .bool _) rfl rfl) ?_
            refine xl_pure rfl rfl rfl (pv_fieldAddr rfl rfl) ?_
            refine xl_light rfl rfl rfl (lv_load (v := .int _ _) rfl rfl (by first | exact ld_blk hr rfl)) ?_
            refine xl_heavy rfl rfl rfl (hv_call (g := 31) rfl rfl (c31 _ _ _) rfl) ?_
            rintro v2_14 H2_14 ⟨r2_14, rfl, hb2_14, rfl⟩
            cases r2_14
            · skip
              replace hb2_14 := mt hb2_14.2 (by decide)
              refine xl_pure rfl rfl rfl (pv_pick_t (v := .bool _) rfl rfl rfl) ?_
              refine xl_pure rfl rfl rfl (pv_move (v := .bool _) rfl rfl) ?_
              refine xl_skip rfl rfl rfl ?_
              refine xl_skip rfl rfl rfl ?_
              refine xl_skip rfl rfl rfl ?_
              refine xl_pure rfl rfl rfl (pv_pick_f (v := .bool _) rfl rfl rfl) ?_
              refine xl_pure rfl rfl rfl (pv_assign (v := .bool _) rfl rfl) ?_
              refine xl_nil ?_
              refine xthen_normal ?_
              exact ⟨_, ⟨rfl, rfl, trivial⟩, (by first | exact ⟨fun _ => by ((try unfold Stands at *); (try unfold Free at *); (try unfold Taken at *); (try unfold Due at *); (try unfold Who at *); (try unfold What at *); (try unfold Kin at *); omega), fun _ => rfl⟩ | exact ⟨fun h => absurd h (by decide), fun h => by ((try unfold Stands at *); (try unfold Free at *); (try unfold Taken at *); (try unfold Due at *); (try unfold Who at *); (try unfold What at *); (try unfold Kin at *); omega)⟩), rfl⟩
            · skip
              replace hb2_14 := hb2_14.1 rfl
              refine xl_pure rfl rfl rfl (pv_pick_t (v := .bool _) rfl rfl rfl) ?_
              refine xl_pure rfl rfl rfl (pv_move (v := .bool _) rfl rfl) ?_
              refine xl_pure rfl rfl rfl (pv_fieldAddr rfl rfl) ?_
              refine xl_light rfl rfl rfl (lv_load (v := .int _ _) rfl rfl (by first | exact ld_blk hr rfl)) ?_
              refine xl_heavy rfl rfl rfl (hv_call (g := 31) rfl rfl (c31 _ _ _) rfl) ?_
              rintro v2_19 H2_19 ⟨r2_19, rfl, hb2_19, rfl⟩
              cases r2_19
              · skip
                replace hb2_19 := mt hb2_19.2 (by decide)
                refine xl_pure rfl rfl rfl (pv_pick_t (v := .bool _) rfl rfl rfl) ?_
                refine xl_pure rfl rfl rfl (pv_assign (v := .bool _) rfl rfl) ?_
                refine xl_nil ?_
                refine xthen_normal ?_
                exact ⟨_, ⟨rfl, rfl, trivial⟩, (by first | exact ⟨fun _ => by ((try unfold Stands at *); (try unfold Free at *); (try unfold Taken at *); (try unfold Due at *); (try unfold Who at *); (try unfold What at *); (try unfold Kin at *); omega), fun _ => rfl⟩ | exact ⟨fun h => absurd h (by decide), fun h => by ((try unfold Stands at *); (try unfold Free at *); (try unfold Taken at *); (try unfold Due at *); (try unfold Who at *); (try unfold What at *); (try unfold Kin at *); omega)⟩), rfl⟩
              · skip
                replace hb2_19 := hb2_19.1 rfl
                refine xl_pure rfl rfl rfl (pv_pick_t (v := .bool _) rfl rfl rfl) ?_
                refine xl_pure rfl rfl rfl (pv_assign (v := .bool _) rfl rfl) ?_
                refine xl_nil ?_
                refine xthen_normal ?_
                exact ⟨_, ⟨rfl, rfl, trivial⟩, (by first | exact ⟨fun _ => by ((try unfold Stands at *); (try unfold Free at *); (try unfold Taken at *); (try unfold Due at *); (try unfold Who at *); (try unfold What at *); (try unfold Kin at *); omega), fun _ => rfl⟩ | exact ⟨fun h => absurd h (by decide), fun h => by ((try unfold Stands at *); (try unfold Free at *); (try unfold Taken at *); (try unfold Due at *); (try unfold Who at *); (try unfold What at *); (try unfold Kin at *); omega)⟩), rfl⟩
    · intro σ
      rintro ww Hm ⟨hww, rfl⟩
      show XC _ _ _ (upds σ [(1, .pointer (some ⟨b0_0, 0, none⟩)), (3, .bool ww)]) _
      refine xc_cut (τ := Bool) (fun t => [(1, .pointer (some ⟨b0_0, 0, none⟩)), (3, .bool t)]) (fun t H' => (t = true ↔ Who d ∧ What d ∧ Lists d) ∧ Blk H' b0_0 (dcs d a b c e) 24 ∧ Ext H H') ?_ ?_
      · skip
        refine xc_region ?_
        refine xl_pure rfl rfl rfl (pv_move (v := .bool _) rfl rfl) ?_
        cases ww
        · skip
          replace hww := mt hww.2 (by decide)
          refine xl_pure rfl rfl rfl (pv_move (v := .bool _) rfl rfl) ?_
          refine xl_skip rfl rfl rfl ?_
          refine xl_skip rfl rfl rfl ?_
          refine xl_skip rfl rfl rfl ?_
          refine xl_skip rfl rfl rfl ?_
          refine xl_pure rfl rfl rfl (pv_pick_f (v := .bool _) rfl rfl rfl) ?_
          refine xl_pure rfl rfl rfl (pv_move (v := .bool _) rfl rfl) ?_
          refine xl_skip rfl rfl rfl ?_
          refine xl_skip rfl rfl rfl ?_
          refine xl_skip rfl rfl rfl ?_
          refine xl_skip rfl rfl rfl ?_
          refine xl_pure rfl rfl rfl (pv_pick_f (v := .bool _) rfl rfl rfl) ?_
          refine xl_pure rfl rfl rfl (pv_assign (v := .bool _) rfl rfl) ?_
          refine xl_nil ?_
          refine xthen_normal ?_
          refine ⟨_, ⟨rfl, rfl, trivial⟩, ?_, hr, hX⟩
          first
            | exact ⟨fun _ => ⟨hww.1, hww.2, hg3_4, hg3_10⟩, fun _ => rfl⟩
            | exact ⟨fun h => absurd h (by decide), fun h => absurd ⟨h.1, h.2.1⟩ hww⟩
            | exact ⟨fun h => absurd h (by decide), fun h => absurd h.2.2.1 hg3_4⟩
            | exact ⟨fun h => absurd h (by decide), fun h => absurd h.2.2.2 hg3_10⟩
        · skip
          replace hww := hww.1 rfl
          refine xl_pure rfl rfl rfl (pv_move (v := .bool _) rfl rfl) ?_
          refine xl_pure rfl rfl rfl (pv_fieldAddr rfl rfl) ?_
          refine xl_light rfl rfl rfl (lv_load (v := .slice _ _ _) rfl rfl (by first | exact ld_blk hr rfl)) ?_
          refine xl_heavy rfl rfl rfl (hv_call (g := 40) rfl rfl (gRCheck d.gives a c 32 (hs.ext hX) (by omega)) rfl) ?_
          rintro v3_4 H3_4 ⟨e3_4, rfl, hg3_4, hE3_4⟩
          have hX := hX.trans hE3_4
          have hr := hr.ext hE3_4
          rcases hg3_4 with ⟨hg3_4, rfl⟩ | ⟨hg3_4, rfl⟩
          · skip
            refine xl_dec rfl rfl rfl (pv_eql rfl rfl rfl) (fun h3_5 => ?_) (fun h3_5 => ?_)
            · skip
              refine xl_pure rfl rfl rfl (pv_pick_t (v := .bool _) rfl rfl rfl) ?_
              refine xl_pure rfl rfl rfl (pv_move (v := .bool _) rfl rfl) ?_
              refine xl_pure rfl rfl rfl (pv_fieldAddr rfl rfl) ?_
              refine xl_light rfl rfl rfl (lv_load (v := .slice _ _ _) rfl rfl (by first | exact ld_blk hr rfl)) ?_
              refine xl_heavy rfl rfl rfl (hv_call (g := 40) rfl rfl (gRCheck d.wants b e 32 (hs'.ext hX) (by omega)) rfl) ?_
              rintro v3_10 H3_10 ⟨e3_10, rfl, hg3_10, hE3_10⟩
              have hX := hX.trans hE3_10
              have hr := hr.ext hE3_10
              rcases hg3_10 with ⟨hg3_10, rfl⟩ | ⟨hg3_10, rfl⟩
              · skip
                refine xl_dec rfl rfl rfl (pv_eql rfl rfl rfl) (fun h3_11 => ?_) (fun h3_11 => ?_)
                · skip
                  refine xl_pure rfl rfl rfl (pv_pick_t (v := .bool _) rfl rfl rfl) ?_
                  refine xl_pure rfl rfl rfl (pv_assign (v := .bool _) rfl rfl) ?_
                  refine xl_nil ?_
                  refine xthen_normal ?_
                  refine ⟨_, ⟨rfl, rfl, trivial⟩, ?_, hr, hX⟩
                  first
                    | exact ⟨fun _ => ⟨hww.1, hww.2, hg3_4, hg3_10⟩, fun _ => rfl⟩
                    | exact ⟨fun h => absurd h (by decide), fun h => absurd ⟨h.1, h.2.1⟩ hww⟩
                    | exact ⟨fun h => absurd h (by decide), fun h => absurd h.2.2.1 hg3_4⟩
                    | exact ⟨fun h => absurd h (by decide), fun h => absurd h.2.2.2 hg3_10⟩
                · exact absurd (by decide) h3_11
              · skip
                refine xl_dec rfl rfl rfl (pv_eql rfl rfl rfl) (fun h3_11 => ?_) (fun h3_11 => ?_)
                · exact absurd h3_11 (by decide)
                · skip
                  refine xl_pure rfl rfl rfl (pv_pick_t (v := .bool _) rfl rfl rfl) ?_
                  refine xl_pure rfl rfl rfl (pv_assign (v := .bool _) rfl rfl) ?_
                  refine xl_nil ?_
                  refine xthen_normal ?_
                  refine ⟨_, ⟨rfl, rfl, trivial⟩, ?_, hr, hX⟩
                  first
                    | exact ⟨fun _ => ⟨hww.1, hww.2, hg3_4, hg3_10⟩, fun _ => rfl⟩
                    | exact ⟨fun h => absurd h (by decide), fun h => absurd ⟨h.1, h.2.1⟩ hww⟩
                    | exact ⟨fun h => absurd h (by decide), fun h => absurd h.2.2.1 hg3_4⟩
                    | exact ⟨fun h => absurd h (by decide), fun h => absurd h.2.2.2 hg3_10⟩
            · exact absurd (by decide) h3_5
          · skip
            refine xl_dec rfl rfl rfl (pv_eql rfl rfl rfl) (fun h3_5 => ?_) (fun h3_5 => ?_)
            · exact absurd h3_5 (by decide)
            · skip
              refine xl_pure rfl rfl rfl (pv_pick_t (v := .bool _) rfl rfl rfl) ?_
              refine xl_pure rfl rfl rfl (pv_move (v := .bool _) rfl rfl) ?_
              refine xl_skip rfl rfl rfl ?_
              refine xl_skip rfl rfl rfl ?_
              refine xl_skip rfl rfl rfl ?_
              refine xl_skip rfl rfl rfl ?_
              refine xl_pure rfl rfl rfl (pv_pick_f (v := .bool _) rfl rfl rfl) ?_
              refine xl_pure rfl rfl rfl (pv_assign (v := .bool _) rfl rfl) ?_
              refine xl_nil ?_
              refine xthen_normal ?_
              refine ⟨_, ⟨rfl, rfl, trivial⟩, ?_, hr, hX⟩
              first
                | exact ⟨fun _ => ⟨hww.1, hww.2, hg3_4, hg3_10⟩, fun _ => rfl⟩
                | exact ⟨fun h => absurd h (by decide), fun h => absurd ⟨h.1, h.2.1⟩ hww⟩
                | exact ⟨fun h => absurd h (by decide), fun h => absurd h.2.2.1 hg3_4⟩
                | exact ⟨fun h => absurd h (by decide), fun h => absurd h.2.2.2 hg3_10⟩
      · intro σ
        clear hr hX
        rintro wl Hm3 ⟨hwl, hr, hX⟩
        show XC _ _ _ (upds σ [(1, .pointer (some ⟨b0_0, 0, none⟩)), (3, .bool wl)]) _
        refine xc_cut (τ := Bool) (fun t => [(1, .pointer (some ⟨b0_0, 0, none⟩)), (3, .bool t)]) (fun t H' => (t = true ↔ Who d ∧ What d ∧ Lists d ∧ Kin d) ∧ Hm3 = H') ?_ ?_
        · skip
          refine xc_seq ?_
          refine xc_region ?_
          refine xl_pure rfl rfl rfl (pv_fieldAddr rfl rfl) ?_
          refine xl_light rfl rfl rfl (lv_load (v := .int _ _) rfl rfl (by first | exact ld_blk hr rfl)) ?_
          refine xl_nil ?_
          refine xthen_normal ?_
          refine xc_block ?_
          refine xc_seq ?_
          refine xc_region ?_
          refine xl_dec rfl rfl rfl (pv_eql rfl rfl rfl) (fun h6_0 => ?_) (fun h6_0 => ?_)
          · skip
            refine xl_pure rfl rfl rfl (pv_assign (v := .bool _) rfl rfl) ?_
            refine xl_nil ?_
            refine xthen_normal ?_
            refine xc_cond_t rfl ?_
            refine xc_region ?_
            refine xl_pure rfl rfl rfl (pv_move (v := .bool _) rfl rfl) ?_
            cases wl
            · skip
              replace hwl := mt hwl.2 (by decide)
              refine xl_pure rfl rfl rfl (pv_move (v := .bool _) rfl rfl) ?_
              refine xl_skip rfl rfl rfl ?_
              refine xl_skip rfl rfl rfl ?_
              refine xl_skip rfl rfl rfl ?_
              refine xl_pure rfl rfl rfl (pv_pick_f (v := .bool _) rfl rfl rfl) ?_
              refine xl_pure rfl rfl rfl (pv_move (v := .bool _) rfl rfl) ?_
              refine xl_skip rfl rfl rfl ?_
              refine xl_skip rfl rfl rfl ?_
              refine xl_skip rfl rfl rfl ?_
              refine xl_pure rfl rfl rfl (pv_pick_f (v := .bool _) rfl rfl rfl) ?_
              refine xl_pure rfl rfl rfl (pv_move (v := .bool _) rfl rfl) ?_
              refine xl_skip rfl rfl rfl ?_
              refine xl_skip rfl rfl rfl ?_
              refine xl_skip rfl rfl rfl ?_
              refine xl_pure rfl rfl rfl (pv_pick_f (v := .bool _) rfl rfl rfl) ?_
              refine xl_pure rfl rfl rfl (pv_move (v := .bool _) rfl rfl) ?_
              refine xl_skip rfl rfl rfl ?_
              refine xl_skip rfl rfl rfl ?_
              refine xl_skip rfl rfl rfl ?_
              refine xl_skip rfl rfl rfl ?_
              refine xl_pure rfl rfl rfl (pv_pick_f (v := .bool _) rfl rfl rfl) ?_
              refine xl_pure rfl rfl rfl (pv_move (v := .bool _) rfl rfl) ?_
              refine xl_skip rfl rfl rfl ?_
              refine xl_skip rfl rfl rfl ?_
              refine xl_skip rfl rfl rfl ?_
              refine xl_skip rfl rfl rfl ?_
              refine xl_pure rfl rfl rfl (pv_pick_f (v := .bool _) rfl rfl rfl) ?_
              refine xl_pure rfl rfl rfl (pv_assign (v := .bool _) rfl rfl) ?_
              refine xl_nil ?_
              refine xblock_normal ?_
              refine xthen_normal ?_
              refine ⟨_, ⟨rfl, rfl, trivial⟩, ?_, rfl⟩
              first
                | exact ⟨fun _ => ⟨hwl.1, hwl.2.1, hwl.2.2, by ((try unfold Stands at *); (try unfold Free at *); (try unfold Taken at *); (try unfold Due at *); (try unfold Who at *); (try unfold What at *); (try unfold Kin at *); omega)⟩, fun _ => rfl⟩
                | exact ⟨fun h => absurd h (by decide), fun h => absurd ⟨h.1, h.2.1, h.2.2.1⟩ hwl⟩
                | exact ⟨fun h => absurd h (by decide), fun h => by have h := h.2.2.2; ((try unfold Stands at *); (try unfold Free at *); (try unfold Taken at *); (try unfold Due at *); (try unfold Who at *); (try unfold What at *); (try unfold Kin at *); omega)⟩
            · skip
              replace hwl := hwl.1 rfl
              refine xl_pure rfl rfl rfl (pv_move (v := .bool _) rfl rfl) ?_
              refine xl_pure rfl rfl rfl (pv_fieldAddr rfl rfl) ?_
              refine xl_light rfl rfl rfl (lv_load (v := .int _ _) rfl rfl (by first | exact ld_blk hr rfl)) ?_
              refine xl_heavy rfl rfl rfl (hv_call (g := 31) rfl rfl (c31 _ _ _) rfl) ?_
              rintro v7_4 H7_4 ⟨r7_4, rfl, hb7_4, rfl⟩
              cases r7_4
              · skip
                replace hb7_4 := mt hb7_4.2 (by decide)
                refine xl_pure rfl rfl rfl (pv_pick_t (v := .bool _) rfl rfl rfl) ?_
                refine xl_pure rfl rfl rfl (pv_move (v := .bool _) rfl rfl) ?_
                refine xl_skip rfl rfl rfl ?_
                refine xl_skip rfl rfl rfl ?_
                refine xl_skip rfl rfl rfl ?_
                refine xl_pure rfl rfl rfl (pv_pick_f (v := .bool _) rfl rfl rfl) ?_
                refine xl_pure rfl rfl rfl (pv_move (v := .bool _) rfl rfl) ?_
                refine xl_skip rfl rfl rfl ?_
                refine xl_skip rfl rfl rfl ?_
                refine xl_skip rfl rfl rfl ?_
                refine xl_pure rfl rfl rfl (pv_pick_f (v := .bool _) rfl rfl rfl) ?_
                refine xl_pure rfl rfl rfl (pv_move (v := .bool _) rfl rfl) ?_
                refine xl_skip rfl rfl rfl ?_
                refine xl_skip rfl rfl rfl ?_
                refine xl_skip rfl rfl rfl ?_
                refine xl_skip rfl rfl rfl ?_
                refine xl_pure rfl rfl rfl (pv_pick_f (v := .bool _) rfl rfl rfl) ?_
                refine xl_pure rfl rfl rfl (pv_move (v := .bool _) rfl rfl) ?_
                refine xl_skip rfl rfl rfl ?_
                refine xl_skip rfl rfl rfl ?_
                refine xl_skip rfl rfl rfl ?_
                refine xl_skip rfl rfl rfl ?_
                refine xl_pure rfl rfl rfl (pv_pick_f (v := .bool _) rfl rfl rfl) ?_
                refine xl_pure rfl rfl rfl (pv_assign (v := .bool _) rfl rfl) ?_
                refine xl_nil ?_
                refine xblock_normal ?_
                refine xthen_normal ?_
                refine ⟨_, ⟨rfl, rfl, trivial⟩, ?_, rfl⟩
                first
                  | exact ⟨fun _ => ⟨hwl.1, hwl.2.1, hwl.2.2, by ((try unfold Stands at *); (try unfold Free at *); (try unfold Taken at *); (try unfold Due at *); (try unfold Who at *); (try unfold What at *); (try unfold Kin at *); omega)⟩, fun _ => rfl⟩
                  | exact ⟨fun h => absurd h (by decide), fun h => absurd ⟨h.1, h.2.1, h.2.2.1⟩ hwl⟩
                  | exact ⟨fun h => absurd h (by decide), fun h => by have h := h.2.2.2; ((try unfold Stands at *); (try unfold Free at *); (try unfold Taken at *); (try unfold Due at *); (try unfold Who at *); (try unfold What at *); (try unfold Kin at *); omega)⟩
              · skip
                replace hb7_4 := hb7_4.1 rfl
                refine xl_pure rfl rfl rfl (pv_pick_t (v := .bool _) rfl rfl rfl) ?_
                refine xl_pure rfl rfl rfl (pv_move (v := .bool _) rfl rfl) ?_
                refine xl_pure rfl rfl rfl (pv_fieldAddr rfl rfl) ?_
                refine xl_light rfl rfl rfl (lv_load (v := .int _ _) rfl rfl (by first | exact ld_blk hr rfl)) ?_
                refine xl_heavy rfl rfl rfl (hv_call (g := 31) rfl rfl (c31 _ _ _) rfl) ?_
                rintro v7_9 H7_9 ⟨r7_9, rfl, hb7_9, rfl⟩
                cases r7_9
                · skip
                  replace hb7_9 := mt hb7_9.2 (by decide)
                  refine xl_pure rfl rfl rfl (pv_pick_t (v := .bool _) rfl rfl rfl) ?_
                  refine xl_pure rfl rfl rfl (pv_move (v := .bool _) rfl rfl) ?_
                  refine xl_skip rfl rfl rfl ?_
                  refine xl_skip rfl rfl rfl ?_
                  refine xl_skip rfl rfl rfl ?_
                  refine xl_pure rfl rfl rfl (pv_pick_f (v := .bool _) rfl rfl rfl) ?_
                  refine xl_pure rfl rfl rfl (pv_move (v := .bool _) rfl rfl) ?_
                  refine xl_skip rfl rfl rfl ?_
                  refine xl_skip rfl rfl rfl ?_
                  refine xl_skip rfl rfl rfl ?_
                  refine xl_skip rfl rfl rfl ?_
                  refine xl_pure rfl rfl rfl (pv_pick_f (v := .bool _) rfl rfl rfl) ?_
                  refine xl_pure rfl rfl rfl (pv_move (v := .bool _) rfl rfl) ?_
                  refine xl_skip rfl rfl rfl ?_
                  refine xl_skip rfl rfl rfl ?_
                  refine xl_skip rfl rfl rfl ?_
                  refine xl_skip rfl rfl rfl ?_
                  refine xl_pure rfl rfl rfl (pv_pick_f (v := .bool _) rfl rfl rfl) ?_
                  refine xl_pure rfl rfl rfl (pv_assign (v := .bool _) rfl rfl) ?_
                  refine xl_nil ?_
                  refine xblock_normal ?_
                  refine xthen_normal ?_
                  refine ⟨_, ⟨rfl, rfl, trivial⟩, ?_, rfl⟩
                  first
                    | exact ⟨fun _ => ⟨hwl.1, hwl.2.1, hwl.2.2, by ((try unfold Stands at *); (try unfold Free at *); (try unfold Taken at *); (try unfold Due at *); (try unfold Who at *); (try unfold What at *); (try unfold Kin at *); omega)⟩, fun _ => rfl⟩
                    | exact ⟨fun h => absurd h (by decide), fun h => absurd ⟨h.1, h.2.1, h.2.2.1⟩ hwl⟩
                    | exact ⟨fun h => absurd h (by decide), fun h => by have h := h.2.2.2; ((try unfold Stands at *); (try unfold Free at *); (try unfold Taken at *); (try unfold Due at *); (try unfold Who at *); (try unfold What at *); (try unfold Kin at *); omega)⟩
                · skip
                  replace hb7_9 := hb7_9.1 rfl
                  refine xl_pure rfl rfl rfl (pv_pick_t (v := .bool _) rfl rfl rfl) ?_
                  refine xl_pure rfl rfl rfl (pv_move (v := .bool _) rfl rfl) ?_
                  refine xl_pure rfl rfl rfl (pv_fieldAddr rfl rfl) ?_
                  refine xl_light rfl rfl rfl (lv_load (v := .int _ _) rfl rfl (by first | exact ld_blk hr rfl)) ?_
                  refine xl_heavy rfl rfl rfl (hv_call (g := 31) rfl rfl (c31 _ _ _) rfl) ?_
                  rintro v7_14 H7_14 ⟨r7_14, rfl, hb7_14, rfl⟩
                  cases r7_14
                  · skip
                    replace hb7_14 := mt hb7_14.2 (by decide)
                    refine xl_pure rfl rfl rfl (pv_pick_t (v := .bool _) rfl rfl rfl) ?_
                    refine xl_pure rfl rfl rfl (pv_move (v := .bool _) rfl rfl) ?_
                    refine xl_skip rfl rfl rfl ?_
                    refine xl_skip rfl rfl rfl ?_
                    refine xl_skip rfl rfl rfl ?_
                    refine xl_skip rfl rfl rfl ?_
                    refine xl_pure rfl rfl rfl (pv_pick_f (v := .bool _) rfl rfl rfl) ?_
                    refine xl_pure rfl rfl rfl (pv_move (v := .bool _) rfl rfl) ?_
                    refine xl_skip rfl rfl rfl ?_
                    refine xl_skip rfl rfl rfl ?_
                    refine xl_skip rfl rfl rfl ?_
                    refine xl_skip rfl rfl rfl ?_
                    refine xl_pure rfl rfl rfl (pv_pick_f (v := .bool _) rfl rfl rfl) ?_
                    refine xl_pure rfl rfl rfl (pv_assign (v := .bool _) rfl rfl) ?_
                    refine xl_nil ?_
                    refine xblock_normal ?_
                    refine xthen_normal ?_
                    refine ⟨_, ⟨rfl, rfl, trivial⟩, ?_, rfl⟩
                    first
                      | exact ⟨fun _ => ⟨hwl.1, hwl.2.1, hwl.2.2, by ((try unfold Stands at *); (try unfold Free at *); (try unfold Taken at *); (try unfold Due at *); (try unfold Who at *); (try unfold What at *); (try unfold Kin at *); omega)⟩, fun _ => rfl⟩
                      | exact ⟨fun h => absurd h (by decide), fun h => absurd ⟨h.1, h.2.1, h.2.2.1⟩ hwl⟩
                      | exact ⟨fun h => absurd h (by decide), fun h => by have h := h.2.2.2; ((try unfold Stands at *); (try unfold Free at *); (try unfold Taken at *); (try unfold Due at *); (try unfold Who at *); (try unfold What at *); (try unfold Kin at *); omega)⟩
                  · skip
                    replace hb7_14 := hb7_14.1 rfl
                    refine xl_pure rfl rfl rfl (pv_pick_t (v := .bool _) rfl rfl rfl) ?_
                    refine xl_pure rfl rfl rfl (pv_move (v := .bool _) rfl rfl) ?_
                    refine xl_pure rfl rfl rfl (pv_fieldAddr rfl rfl) ?_
                    refine xl_light rfl rfl rfl (lv_load (v := .slice _ _ _) rfl rfl (by first | exact ld_blk hr rfl)) ?_
                    refine xl_pure rfl rfl rfl (pv_len_l rfl rfl) ?_
                    refine xl_dec rfl rfl rfl (pv_gtr rfl rfl rfl) (fun h7_20 => ?_) (fun h7_20 => ?_)
                    · skip
                      refine xl_pure rfl rfl rfl (pv_pick_t (v := .bool _) rfl rfl rfl) ?_
                      refine xl_pure rfl rfl rfl (pv_move (v := .bool _) rfl rfl) ?_
                      refine xl_pure rfl rfl rfl (pv_fieldAddr rfl rfl) ?_
                      refine xl_light rfl rfl rfl (lv_load (v := .slice _ _ _) rfl rfl (by first | exact ld_blk hr rfl)) ?_
                      refine xl_pure rfl rfl rfl (pv_len_l rfl rfl) ?_
                      refine xl_dec rfl rfl rfl (pv_eql rfl rfl rfl) (fun h7_26 => ?_) (fun h7_26 => ?_)
                      · skip
                        refine xl_pure rfl rfl rfl (pv_pick_t (v := .bool _) rfl rfl rfl) ?_
                        refine xl_pure rfl rfl rfl (pv_assign (v := .bool _) rfl rfl) ?_
                        refine xl_nil ?_
                        refine xblock_normal ?_
                        refine xthen_normal ?_
                        refine ⟨_, ⟨rfl, rfl, trivial⟩, ?_, rfl⟩
                        first
                          | exact ⟨fun _ => ⟨hwl.1, hwl.2.1, hwl.2.2, by ((try unfold Stands at *); (try unfold Free at *); (try unfold Taken at *); (try unfold Due at *); (try unfold Who at *); (try unfold What at *); (try unfold Kin at *); omega)⟩, fun _ => rfl⟩
                          | exact ⟨fun h => absurd h (by decide), fun h => absurd ⟨h.1, h.2.1, h.2.2.1⟩ hwl⟩
                          | exact ⟨fun h => absurd h (by decide), fun h => by have h := h.2.2.2; ((try unfold Stands at *); (try unfold Free at *); (try unfold Taken at *); (try unfold Due at *); (try unfold Who at *); (try unfold What at *); (try unfold Kin at *); omega)⟩
                      · skip
                        refine xl_pure rfl rfl rfl (pv_pick_t (v := .bool _) rfl rfl rfl) ?_
                        refine xl_pure rfl rfl rfl (pv_assign (v := .bool _) rfl rfl) ?_
                        refine xl_nil ?_
                        refine xblock_normal ?_
                        refine xthen_normal ?_
                        refine ⟨_, ⟨rfl, rfl, trivial⟩, ?_, rfl⟩
                        first
                          | exact ⟨fun _ => ⟨hwl.1, hwl.2.1, hwl.2.2, by ((try unfold Stands at *); (try unfold Free at *); (try unfold Taken at *); (try unfold Due at *); (try unfold Who at *); (try unfold What at *); (try unfold Kin at *); omega)⟩, fun _ => rfl⟩
                          | exact ⟨fun h => absurd h (by decide), fun h => absurd ⟨h.1, h.2.1, h.2.2.1⟩ hwl⟩
                          | exact ⟨fun h => absurd h (by decide), fun h => by have h := h.2.2.2; ((try unfold Stands at *); (try unfold Free at *); (try unfold Taken at *); (try unfold Due at *); (try unfold Who at *); (try unfold What at *); (try unfold Kin at *); omega)⟩
                    · skip
                      refine xl_pure rfl rfl rfl (pv_pick_t (v := .bool _) rfl rfl rfl) ?_
                      refine xl_pure rfl rfl rfl (pv_move (v := .bool _) rfl rfl) ?_
                      refine xl_skip rfl rfl rfl ?_
                      refine xl_skip rfl rfl rfl ?_
                      refine xl_skip rfl rfl rfl ?_
                      refine xl_skip rfl rfl rfl ?_
                      refine xl_pure rfl rfl rfl (pv_pick_f (v := .bool _) rfl rfl rfl) ?_
                      refine xl_pure rfl rfl rfl (pv_assign (v := .bool _) rfl rfl) ?_
                      refine xl_nil ?_
                      refine xblock_normal ?_
                      refine xthen_normal ?_
                      refine ⟨_, ⟨rfl, rfl, trivial⟩, ?_, rfl⟩
                      first
                        | exact ⟨fun _ => ⟨hwl.1, hwl.2.1, hwl.2.2, by ((try unfold Stands at *); (try unfold Free at *); (try unfold Taken at *); (try unfold Due at *); (try unfold Who at *); (try unfold What at *); (try unfold Kin at *); omega)⟩, fun _ => rfl⟩
                        | exact ⟨fun h => absurd h (by decide), fun h => absurd ⟨h.1, h.2.1, h.2.2.1⟩ hwl⟩
                        | exact ⟨fun h => absurd h (by decide), fun h => by have h := h.2.2.2; ((try unfold Stands at *); (try unfold Free at *); (try unfold Taken at *); (try unfold Due at *); (try unfold Who at *); (try unfold What at *); (try unfold Kin at *); omega)⟩
          · skip
            refine xl_pure rfl rfl rfl (pv_assign (v := .bool _) rfl rfl) ?_
            refine xl_nil ?_
            refine xthen_normal ?_
            refine xc_cond_f rfl ?_
            refine xc_seq ?_
            refine xc_region ?_
            refine xl_dec rfl rfl rfl (pv_eql rfl rfl rfl) (fun h8_0 => ?_) (fun h8_0 => ?_)
            · skip
              refine xl_pure rfl rfl rfl (pv_assign (v := .bool _) rfl rfl) ?_
              refine xl_nil ?_
              refine xthen_normal ?_
              refine xc_cond_t rfl ?_
              refine xc_region ?_
              refine xl_pure rfl rfl rfl (pv_move (v := .bool _) rfl rfl) ?_
              cases wl
              · skip
                replace hwl := mt hwl.2 (by decide)
                refine xl_pure rfl rfl rfl (pv_move (v := .bool _) rfl rfl) ?_
                refine xl_skip rfl rfl rfl ?_
                refine xl_skip rfl rfl rfl ?_
                refine xl_skip rfl rfl rfl ?_
                refine xl_pure rfl rfl rfl (pv_pick_f (v := .bool _) rfl rfl rfl) ?_
                refine xl_pure rfl rfl rfl (pv_move (v := .bool _) rfl rfl) ?_
                refine xl_skip rfl rfl rfl ?_
                refine xl_skip rfl rfl rfl ?_
                refine xl_skip rfl rfl rfl ?_
                refine xl_pure rfl rfl rfl (pv_pick_f (v := .bool _) rfl rfl rfl) ?_
                refine xl_pure rfl rfl rfl (pv_move (v := .bool _) rfl rfl) ?_
                refine xl_skip rfl rfl rfl ?_
                refine xl_skip rfl rfl rfl ?_
                refine xl_skip rfl rfl rfl ?_
                refine xl_pure rfl rfl rfl (pv_pick_f (v := .bool _) rfl rfl rfl) ?_
                refine xl_pure rfl rfl rfl (pv_move (v := .bool _) rfl rfl) ?_
                refine xl_skip rfl rfl rfl ?_
                refine xl_skip rfl rfl rfl ?_
                refine xl_skip rfl rfl rfl ?_
                refine xl_skip rfl rfl rfl ?_
                refine xl_skip rfl rfl rfl ?_
                refine xl_skip rfl rfl rfl ?_
                refine xl_skip rfl rfl rfl ?_
                refine xl_skip rfl rfl rfl ?_
                refine xl_pure rfl rfl rfl (pv_pick_f (v := .bool _) rfl rfl rfl) ?_
                refine xl_pure rfl rfl rfl (pv_assign (v := .bool _) rfl rfl) ?_
                refine xl_nil ?_
                refine xblock_normal ?_
                refine xthen_normal ?_
                refine ⟨_, ⟨rfl, rfl, trivial⟩, ?_, rfl⟩
                first
                  | exact ⟨fun _ => ⟨hwl.1, hwl.2.1, hwl.2.2, by ((try unfold Stands at *); (try unfold Free at *); (try unfold Taken at *); (try unfold Due at *); (try unfold Who at *); (try unfold What at *); (try unfold Kin at *); omega)⟩, fun _ => rfl⟩
                  | exact ⟨fun h => absurd h (by decide), fun h => absurd ⟨h.1, h.2.1, h.2.2.1⟩ hwl⟩
                  | exact ⟨fun h => absurd h (by decide), fun h => by have h := h.2.2.2; ((try unfold Stands at *); (try unfold Free at *); (try unfold Taken at *); (try unfold Due at *); (try unfold Who at *); (try unfold What at *); (try unfold Kin at *); omega)⟩
              · skip
                replace hwl := hwl.1 rfl
                refine xl_pure rfl rfl rfl (pv_move (v := .bool _) rfl rfl) ?_
                refine xl_pure rfl rfl rfl (pv_fieldAddr rfl rfl) ?_
                refine xl_light rfl rfl rfl (lv_load (v := .int _ _) rfl rfl (by first | exact ld_blk hr rfl)) ?_
                refine xl_dec rfl rfl rfl (pv_eql rfl rfl rfl) (fun h9_4 => ?_) (fun h9_4 => ?_)
                · skip
                  refine xl_pure rfl rfl rfl (pv_pick_t (v := .bool _) rfl rfl rfl) ?_
                  refine xl_pure rfl rfl rfl (pv_move (v := .bool _) rfl rfl) ?_
                  refine xl_pure rfl rfl rfl (pv_fieldAddr rfl rfl) ?_
                  refine xl_light rfl rfl rfl (lv_load (v := .int _ _) rfl rfl (by first | exact ld_blk hr rfl)) ?_
                  refine xl_dec rfl rfl rfl (pv_eql rfl rfl rfl) (fun h9_9 => ?_) (fun h9_9 => ?_)
                  · skip
                    refine xl_pure rfl rfl rfl (pv_pick_t (v := .bool _) rfl rfl rfl) ?_
                    refine xl_pure rfl rfl rfl (pv_move (v := .bool _) rfl rfl) ?_
                    refine xl_pure rfl rfl rfl (pv_fieldAddr rfl rfl) ?_
                    refine xl_light rfl rfl rfl (lv_load (v := .int _ _) rfl rfl (by first | exact ld_blk hr rfl)) ?_
                    refine xl_dec rfl rfl rfl (pv_eql rfl rfl rfl) (fun h9_14 => ?_) (fun h9_14 => ?_)
                    · skip
                      refine xl_pure rfl rfl rfl (pv_pick_t (v := .bool _) rfl rfl rfl) ?_
                      refine xl_pure rfl rfl rfl (pv_move (v := .bool _) rfl rfl) ?_
                      refine xl_pure rfl rfl rfl (pv_fieldAddr rfl rfl) ?_
                      refine xl_light rfl rfl rfl (lv_load (v := .slice _ _ _) rfl rfl (by first | exact ld_blk hr rfl)) ?_
                      refine xl_pure rfl rfl rfl (pv_len_l rfl rfl) ?_
                      refine xl_pure rfl rfl rfl (pv_fieldAddr rfl rfl) ?_
                      refine xl_light rfl rfl rfl (lv_load (v := .slice _ _ _) rfl rfl (by first | exact ld_blk hr rfl)) ?_
                      refine xl_pure rfl rfl rfl (pv_len_l rfl rfl) ?_
                      refine xl_pure rfl rfl rfl (pv_add rfl rfl rfl (fit_i64 (by omega))) ?_
                      refine xl_dec rfl rfl rfl (pv_gtr rfl rfl rfl) (fun h9_24 => ?_) (fun h9_24 => ?_)
                      · skip
                        refine xl_pure rfl rfl rfl (pv_pick_t (v := .bool _) rfl rfl rfl) ?_
                        refine xl_pure rfl rfl rfl (pv_assign (v := .bool _) rfl rfl) ?_
                        refine xl_nil ?_
                        refine xblock_normal ?_
                        refine xthen_normal ?_
                        refine ⟨_, ⟨rfl, rfl, trivial⟩, ?_, rfl⟩
                        first
                          | exact ⟨fun _ => ⟨hwl.1, hwl.2.1, hwl.2.2, by ((try unfold Stands at *); (try unfold Free at *); (try unfold Taken at *); (try unfold Due at *); (try unfold Who at *); (try unfold What at *); (try unfold Kin at *); omega)⟩, fun _ => rfl⟩
                          | exact ⟨fun h => absurd h (by decide), fun h => absurd ⟨h.1, h.2.1, h.2.2.1⟩ hwl⟩
                          | exact ⟨fun h => absurd h (by decide), fun h => by have h := h.2.2.2; ((try unfold Stands at *); (try unfold Free at *); (try unfold Taken at *); (try unfold Due at *); (try unfold Who at *); (try unfold What at *); (try unfold Kin at *); omega)⟩
                      · skip
                        refine xl_pure rfl rfl rfl (pv_pick_t (v := .bool _) rfl rfl rfl) ?_
                        refine xl_pure rfl rfl rfl (pv_assign (v := .bool _) rfl rfl) ?_
                        refine xl_nil ?_
                        refine xblock_normal ?_
                        refine xthen_normal ?_
                        refine ⟨_, ⟨rfl, rfl, trivial⟩, ?_, rfl⟩
                        first
                          | exact ⟨fun _ => ⟨hwl.1, hwl.2.1, hwl.2.2, by ((try unfold Stands at *); (try unfold Free at *); (try unfold Taken at *); (try unfold Due at *); (try unfold Who at *); (try unfold What at *); (try unfold Kin at *); omega)⟩, fun _ => rfl⟩
                          | exact ⟨fun h => absurd h (by decide), fun h => absurd ⟨h.1, h.2.1, h.2.2.1⟩ hwl⟩
                          | exact ⟨fun h => absurd h (by decide), fun h => by have h := h.2.2.2; ((try unfold Stands at *); (try unfold Free at *); (try unfold Taken at *); (try unfold Due at *); (try unfold Who at *); (try unfold What at *); (try unfold Kin at *); omega)⟩
                    · skip
                      refine xl_pure rfl rfl rfl (pv_pick_t (v := .bool _) rfl rfl rfl) ?_
                      refine xl_pure rfl rfl rfl (pv_move (v := .bool _) rfl rfl) ?_
                      refine xl_skip rfl rfl rfl ?_
                      refine xl_skip rfl rfl rfl ?_
                      refine xl_skip rfl rfl rfl ?_
                      refine xl_skip rfl rfl rfl ?_
                      refine xl_skip rfl rfl rfl ?_
                      refine xl_skip rfl rfl rfl ?_
                      refine xl_skip rfl rfl rfl ?_
                      refine xl_skip rfl rfl rfl ?_
                      refine xl_pure rfl rfl rfl (pv_pick_f (v := .bool _) rfl rfl rfl) ?_
                      refine xl_pure rfl rfl rfl (pv_assign (v := .bool _) rfl rfl) ?_
                      refine xl_nil ?_
                      refine xblock_normal ?_
                      refine xthen_normal ?_
                      refine ⟨_, ⟨rfl, rfl, trivial⟩, ?_, rfl⟩
                      first
                        | exact ⟨fun _ => ⟨hwl.1, hwl.2.1, hwl.2.2, by ((try unfold Stands at *); (try unfold Free at *); (try unfold Taken at *); (try unfold Due at *); (try unfold Who at *); (try unfold What at *); (try unfold Kin at *); omega)⟩, fun _ => rfl⟩
                        | exact ⟨fun h => absurd h (by decide), fun h => absurd ⟨h.1, h.2.1, h.2.2.1⟩ hwl⟩
                        | exact ⟨fun h => absurd h (by decide), fun h => by have h := h.2.2.2; ((try unfold Stands at *); (try unfold Free at *); (try unfold Taken at *); (try unfold Due at *); (try unfold Who at *); (try unfold What at *); (try unfold Kin at *); omega)⟩
                  · skip
                    refine xl_pure rfl rfl rfl (pv_pick_t (v := .bool _) rfl rfl rfl) ?_
                    refine xl_pure rfl rfl rfl (pv_move (v := .bool _) rfl rfl) ?_
                    refine xl_skip rfl rfl rfl ?_
                    refine xl_skip rfl rfl rfl ?_
                    refine xl_skip rfl rfl rfl ?_
                    refine xl_pure rfl rfl rfl (pv_pick_f (v := .bool _) rfl rfl rfl) ?_
                    refine xl_pure rfl rfl rfl (pv_move (v := .bool _) rfl rfl) ?_
                    refine xl_skip rfl rfl rfl ?_
                    refine xl_skip rfl rfl rfl ?_
                    refine xl_skip rfl rfl rfl ?_
                    refine xl_skip rfl rfl rfl ?_
                    refine xl_skip rfl rfl rfl ?_
                    refine xl_skip rfl rfl rfl ?_
                    refine xl_skip rfl rfl rfl ?_
                    refine xl_skip rfl rfl rfl ?_
                    refine xl_pure rfl rfl rfl (pv_pick_f (v := .bool _) rfl rfl rfl) ?_
                    refine xl_pure rfl rfl rfl (pv_assign (v := .bool _) rfl rfl) ?_
                    refine xl_nil ?_
                    refine xblock_normal ?_
                    refine xthen_normal ?_
                    refine ⟨_, ⟨rfl, rfl, trivial⟩, ?_, rfl⟩
                    first
                      | exact ⟨fun _ => ⟨hwl.1, hwl.2.1, hwl.2.2, by ((try unfold Stands at *); (try unfold Free at *); (try unfold Taken at *); (try unfold Due at *); (try unfold Who at *); (try unfold What at *); (try unfold Kin at *); omega)⟩, fun _ => rfl⟩
                      | exact ⟨fun h => absurd h (by decide), fun h => absurd ⟨h.1, h.2.1, h.2.2.1⟩ hwl⟩
                      | exact ⟨fun h => absurd h (by decide), fun h => by have h := h.2.2.2; ((try unfold Stands at *); (try unfold Free at *); (try unfold Taken at *); (try unfold Due at *); (try unfold Who at *); (try unfold What at *); (try unfold Kin at *); omega)⟩
                · skip
                  refine xl_pure rfl rfl rfl (pv_pick_t (v := .bool _) rfl rfl rfl) ?_
                  refine xl_pure rfl rfl rfl (pv_move (v := .bool _) rfl rfl) ?_
                  refine xl_skip rfl rfl rfl ?_
                  refine xl_skip rfl rfl rfl ?_
                  refine xl_skip rfl rfl rfl ?_
                  refine xl_pure rfl rfl rfl (pv_pick_f (v := .bool _) rfl rfl rfl) ?_
                  refine xl_pure rfl rfl rfl (pv_move (v := .bool _) rfl rfl) ?_
                  refine xl_skip rfl rfl rfl ?_
                  refine xl_skip rfl rfl rfl ?_
                  refine xl_skip rfl rfl rfl ?_
                  refine xl_pure rfl rfl rfl (pv_pick_f (v := .bool _) rfl rfl rfl) ?_
                  refine xl_pure rfl rfl rfl (pv_move (v := .bool _) rfl rfl) ?_
                  refine xl_skip rfl rfl rfl ?_
                  refine xl_skip rfl rfl rfl ?_
                  refine xl_skip rfl rfl rfl ?_
                  refine xl_skip rfl rfl rfl ?_
                  refine xl_skip rfl rfl rfl ?_
                  refine xl_skip rfl rfl rfl ?_
                  refine xl_skip rfl rfl rfl ?_
                  refine xl_skip rfl rfl rfl ?_
                  refine xl_pure rfl rfl rfl (pv_pick_f (v := .bool _) rfl rfl rfl) ?_
                  refine xl_pure rfl rfl rfl (pv_assign (v := .bool _) rfl rfl) ?_
                  refine xl_nil ?_
                  refine xblock_normal ?_
                  refine xthen_normal ?_
                  refine ⟨_, ⟨rfl, rfl, trivial⟩, ?_, rfl⟩
                  first
                    | exact ⟨fun _ => ⟨hwl.1, hwl.2.1, hwl.2.2, by ((try unfold Stands at *); (try unfold Free at *); (try unfold Taken at *); (try unfold Due at *); (try unfold Who at *); (try unfold What at *); (try unfold Kin at *); omega)⟩, fun _ => rfl⟩
                    | exact ⟨fun h => absurd h (by decide), fun h => absurd ⟨h.1, h.2.1, h.2.2.1⟩ hwl⟩
                    | exact ⟨fun h => absurd h (by decide), fun h => by have h := h.2.2.2; ((try unfold Stands at *); (try unfold Free at *); (try unfold Taken at *); (try unfold Due at *); (try unfold Who at *); (try unfold What at *); (try unfold Kin at *); omega)⟩
            · skip
              refine xl_pure rfl rfl rfl (pv_assign (v := .bool _) rfl rfl) ?_
              refine xl_nil ?_
              refine xthen_normal ?_
              refine xc_cond_f rfl ?_
              refine xc_region ?_
              refine xl_pure rfl rfl rfl (pv_assign (v := .bool _) rfl rfl) ?_
              refine xl_nil ?_
              refine xblock_normal ?_
              refine xthen_normal ?_
              refine ⟨_, ⟨rfl, rfl, trivial⟩, ?_, rfl⟩
              first
                | exact ⟨fun _ => ⟨hwl.1, hwl.2.1, hwl.2.2, by ((try unfold Stands at *); (try unfold Free at *); (try unfold Taken at *); (try unfold Due at *); (try unfold Who at *); (try unfold What at *); (try unfold Kin at *); omega)⟩, fun _ => rfl⟩
                | exact ⟨fun h => absurd h (by decide), fun h => absurd ⟨h.1, h.2.1, h.2.2.1⟩ hwl⟩
                | exact ⟨fun h => absurd h (by decide), fun h => by have h := h.2.2.2; ((try unfold Stands at *); (try unfold Free at *); (try unfold Taken at *); (try unfold Due at *); (try unfold Who at *); (try unfold What at *); (try unfold Kin at *); omega)⟩
        · intro σ
          rintro al Hm ⟨hal, rfl⟩
          show XC _ _ _ (upds σ [(1, .pointer (some ⟨b0_0, 0, none⟩)), (3, .bool al)]) _
          refine xc_seq ?_
          refine xc_seq ?_
          refine xc_region ?_
          refine xl_pure rfl rfl rfl (pv_move (v := .bool _) rfl rfl) ?_
          cases al
          · skip
            replace hal := mt hal.2 (by decide)
            refine xl_pure rfl rfl rfl (pv_not rfl rfl) ?_
            refine xl_pure rfl rfl rfl (pv_move (v := .bool _) rfl rfl) ?_
            refine xl_skip rfl rfl rfl ?_
            refine xl_skip rfl rfl rfl ?_
            refine xl_skip rfl rfl rfl ?_
            refine xl_pure rfl rfl rfl (pv_pick_t (v := .bool _) rfl rfl rfl) ?_
            refine xl_nil ?_
            refine xthen_normal ?_
            refine xc_cond_t rfl ?_
            refine xc_seq ?_
            refine xc_region ?_
            refine xl_pure rfl rfl rfl (pv_assign (v := .int _ _) rfl rfl) ?_
            refine xl_nil ?_
            refine xthen_normal ?_
            refine xc_ret ?_
            refine xthen_ret ?_
            refine fin_ret (res1 (v := .int _ _) rfl rfl) ?_
            refine ⟨1, rfl, .inr ⟨fun h => ?_, rfl⟩, by first | exact hX | exact hX.trans hE10_4⟩
            first | exact hal ⟨h.1, h.2.1, h.2.2.1, h.2.2.2.1⟩ | exact hb10_4 h.2.2.2.2
          · skip
            replace hal := hal.1 rfl
            refine xl_pure rfl rfl rfl (pv_not rfl rfl) ?_
            refine xl_pure rfl rfl rfl (pv_move (v := .bool _) rfl rfl) ?_
            refine xl_light rfl rfl rfl (lv_load (v := .agg _) rfl rfl (by first | exact ld_blk_a hr rfl rfl)) ?_
            refine xl_heavy rfl rfl rfl (hv_call (g := 41) rfl rfl (c41 d a b c e) rfl) ?_
            rintro v10_4 H10_4 ⟨r10_4, rfl, hb10_4, hE10_4⟩
            cases r10_4
            · skip
              replace hb10_4 := mt hb10_4.2 (by decide)
              refine xl_pure rfl rfl rfl (pv_not rfl rfl) ?_
              refine xl_pure rfl rfl rfl (pv_pick_f (v := .bool _) rfl rfl rfl) ?_
              refine xl_nil ?_
              refine xthen_normal ?_
              refine xc_cond_t rfl ?_
              refine xc_seq ?_
              refine xc_region ?_
              refine xl_pure rfl rfl rfl (pv_assign (v := .int _ _) rfl rfl) ?_
              refine xl_nil ?_
              refine xthen_normal ?_
              refine xc_ret ?_
              refine xthen_ret ?_
              refine fin_ret (res1 (v := .int _ _) rfl rfl) ?_
              refine ⟨1, rfl, .inr ⟨fun h => ?_, rfl⟩, by first | exact hX | exact hX.trans hE10_4⟩
              first | exact hal ⟨h.1, h.2.1, h.2.2.1, h.2.2.2.1⟩ | exact hb10_4 h.2.2.2.2
            · skip
              replace hb10_4 := hb10_4.1 rfl
              refine xl_pure rfl rfl rfl (pv_not rfl rfl) ?_
              refine xl_pure rfl rfl rfl (pv_pick_f (v := .bool _) rfl rfl rfl) ?_
              refine xl_nil ?_
              refine xthen_normal ?_
              refine xc_cond_f rfl ?_
              refine xc_skip ?_
              refine xthen_normal ?_
              refine xc_seq ?_
              refine xc_region ?_
              refine xl_pure rfl rfl rfl (pv_assign (v := .int _ _) rfl rfl) ?_
              refine xl_nil ?_
              refine xthen_normal ?_
              refine xc_ret ?_
              refine fin_ret (res1 (v := .int _ _) rfl rfl) ?_
              exact ⟨0, rfl, .inl ⟨⟨hal.1, hal.2.1, hal.2.2.1, hal.2.2.2, hb10_4⟩, rfl⟩, hX.trans hE10_4⟩
end Go.XG
