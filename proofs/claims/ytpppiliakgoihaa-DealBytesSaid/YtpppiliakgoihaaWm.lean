/-
  Walks of the seat's functions over the logic XG: each function, what it computes. Printed by a program out of wip/walks.py.
-/
import Derived.Test.YtpppiliakgoihaaI
import Derived.Test.YtpppiliakgoihaaG
import Derived.Test.YtpppiliakgoihaaP
import Derived.Test.YtpppiliakgoihaaWa
import Derived.Test.YtpppiliakgoihaaWb
import Derived.Test.YtpppiliakgoihaaWc
import Derived.Test.YtpppiliakgoihaaWd
import Derived.Test.YtpppiliakgoihaaQ
import Derived.Test.YtpppiliakgoihaaR
import Derived.Test.YtpppiliakgoihaaXg
import Derived.Test.YtpppiliakgoihaaWe
import Derived.Test.YtpppiliakgoihaaWf
import Derived.Test.YtpppiliakgoihaaWg
import Derived.Test.YtpppiliakgoihaaWh
import Derived.Test.YtpppiliakgoihaaWi
import Derived.Test.YtpppiliakgoihaaWj
import Derived.Test.YtpppiliakgoihaaWk
import Derived.Test.YtpppiliakgoihaaV
import Derived.Test.YtpppiliakgoihaaXh
import Derived.Test.YtpppiliakgoihaaWl
namespace Go.XG
open Go.Proofs
set_option maxRecDepth 4000
set_option maxHeartbeats 4000000
theorem c16 {O : Outer} {H : Heap} (d : D) (a b : Option Addr) (c e : Nat) (s tax : Int) (hs : Stks H a d.gives) (hs' : Stks H b d.wants) (hl : d.gives.length < 1099511627776) (hl' : d.wants.length < 1099511627776) :
    FnC Try.prog 16 #[.agg (dcs d a b c e).toArray, .int .i64 s, .int .i64 tax] O H (fun v H' => ∃ e l a' c', v = .tuple #[.slice a' (List.length l) c', .int .i64 e] ∧ (e, l) = sharesD d s tax ∧ Rows H' a' 3 l ∧ Ext H H') := by
  refine fn_enter (A := [.agg (dcs d a b c e).toArray, .int .i64 s, .int .i64 tax]) Try.func16 rfl rfl ?_
  have hX := Ext.refl H
  refine xc_seq ?_
  refine xc_region ?_
  refine xl_heavy rfl rfl rfl (hv_box rfl rfl) ?_
  rintro v0_0 H0_0 ⟨b0_0, rfl, hN0_0⟩
  have gb0_0 := hX.fresh hN0_0
  have hX := hX.trans hN0_0.ext
  have m0_0 := hN0_0.blk
  refine xl_pure rfl rfl rfl (pv_assign (v := .slice _ _ _) rfl rfl) ?_
  refine xl_pure rfl rfl rfl (pv_assign (v := .int _ _) rfl rfl) ?_
  refine xl_nil ?_
  refine xthen_normal ?_
  refine xc_cut (τ := Bool) (fun t => [(1, .int .i64 s), (2, .int .i64 tax), (3, .pointer (some ⟨b0_0, 0, none⟩)), (8, .bool t)]) (fun t H' => (t = true ↔ d.kind = 2) ∧ (Blk H' b0_0 (dcs d a b c e) 24) ∧ (Ext H H')) ?_ ?_
  · skip
    refine xc_region ?_
    refine xl_pure rfl rfl rfl (pv_fieldAddr rfl rfl) ?_
    refine xl_light rfl rfl rfl (lv_load (v := .int _ _) rfl rfl (ld_blk m0_0 rfl)) ?_
    refine xl_dec rfl rfl rfl (pv_eql rfl rfl rfl) (fun h1_2 => ?_) (fun h1_2 => ?_)
    · skip
      refine xl_pure rfl rfl rfl (pv_assign (v := .bool _) rfl rfl) ?_
      refine xl_nil ?_
      refine xthen_normal ?_
      exact ⟨_, ⟨rfl, rfl, rfl, rfl, trivial⟩, ⟨(by first | exact ⟨fun _ => by ((try unfold Stands at *); (try unfold Free at *); (try unfold Taken at *); (try unfold Due at *); (try unfold Who at *); (try unfold What at *); (try unfold Kin at *); omega), fun _ => rfl⟩ | exact ⟨fun h => absurd h (by decide), fun h => by ((try unfold Stands at *); (try unfold Free at *); (try unfold Taken at *); (try unfold Due at *); (try unfold Who at *); (try unfold What at *); (try unfold Kin at *); omega)⟩), m0_0, hX⟩⟩
    · skip
      refine xl_pure rfl rfl rfl (pv_assign (v := .bool _) rfl rfl) ?_
      refine xl_nil ?_
      refine xthen_normal ?_
      exact ⟨_, ⟨rfl, rfl, rfl, rfl, trivial⟩, ⟨(by first | exact ⟨fun _ => by ((try unfold Stands at *); (try unfold Free at *); (try unfold Taken at *); (try unfold Due at *); (try unfold Who at *); (try unfold What at *); (try unfold Kin at *); omega), fun _ => rfl⟩ | exact ⟨fun h => absurd h (by decide), fun h => by ((try unfold Stands at *); (try unfold Free at *); (try unfold Taken at *); (try unfold Due at *); (try unfold Who at *); (try unfold What at *); (try unfold Kin at *); omega)⟩), m0_0, hX⟩⟩
  · intro σ
    clear hX m0_0
    rintro tr Hm1 ⟨htr, m0_0, hX⟩
    replace htr : tr = true ↔ d.kind = 2 := htr
    replace m0_0 : Blk Hm1 b0_0 (dcs d a b c e) 24 := m0_0
    replace hX : Ext H Hm1 := hX
    show XC _ _ _ (upds σ [(1, .int .i64 s), (2, .int .i64 tax), (3, .pointer (some ⟨b0_0, 0, none⟩)), (8, .bool tr)]) _
    refine xc_cut (τ := Bool) (fun t => [(1, .int .i64 s), (2, .int .i64 tax), (3, .pointer (some ⟨b0_0, 0, none⟩)), (8, .bool tr), (9, .bool t)]) (fun t H' => (t = true ↔ Sold d s) ∧ (Blk H' b0_0 (dcs d a b c e) 24) ∧ (Ext H H')) ?_ ?_
    · skip
      refine xc_region ?_
      refine xl_pure rfl rfl rfl (pv_move (v := .bool _) rfl rfl) ?_
      refine xl_pure rfl rfl rfl (pv_move (v := .bool _) rfl rfl) ?_
      cases tr
      · skip
        replace htr := mt htr.2 (by decide)
        refine xl_skip rfl rfl rfl ?_
        refine xl_skip rfl rfl rfl ?_
        refine xl_skip rfl rfl rfl ?_
        refine xl_pure rfl rfl rfl (pv_pick_f (v := .bool _) rfl rfl rfl) ?_
        refine xl_pure rfl rfl rfl (pv_move (v := .bool _) rfl rfl) ?_
        refine xl_skip rfl rfl rfl ?_
        refine xl_skip rfl rfl rfl ?_
        refine xl_pure rfl rfl rfl (pv_pick_f (v := .bool _) rfl rfl rfl) ?_
        refine xl_pure rfl rfl rfl (pv_assign (v := .bool _) rfl rfl) ?_
        refine xl_nil ?_
        refine xthen_normal ?_
        exact ⟨_, ⟨rfl, rfl, rfl, rfl, rfl, trivial⟩, ⟨(by first | exact ⟨fun _ => by ((try unfold Stands at *); (try unfold Free at *); (try unfold Taken at *); (try unfold Due at *); (try unfold Who at *); (try unfold What at *); (try unfold Sold at *); omega), fun _ => rfl⟩ | exact ⟨fun h => absurd h (by decide), fun h => by ((try unfold Stands at *); (try unfold Free at *); (try unfold Taken at *); (try unfold Due at *); (try unfold Who at *); (try unfold What at *); (try unfold Sold at *); omega)⟩), m0_0, hX⟩⟩
      · skip
        replace htr := htr.1 rfl
        refine xl_pure rfl rfl rfl (pv_fieldAddr rfl rfl) ?_
        refine xl_light rfl rfl rfl (lv_load (v := .int _ _) rfl rfl (ld_blk m0_0 rfl)) ?_
        refine xl_dec rfl rfl rfl (pv_eql rfl rfl rfl) (fun h2_4 => ?_) (fun h2_4 => ?_)
        · skip
          refine xl_pure rfl rfl rfl (pv_pick_t (v := .bool _) rfl rfl rfl) ?_
          refine xl_pure rfl rfl rfl (pv_move (v := .bool _) rfl rfl) ?_
          refine xl_pure rfl rfl rfl (pv_move (v := .int _ _) rfl rfl) ?_
          refine xl_dec rfl rfl rfl (pv_eql rfl rfl rfl) (fun h2_8 => ?_) (fun h2_8 => ?_)
          · skip
            refine xl_pure rfl rfl rfl (pv_pick_t (v := .bool _) rfl rfl rfl) ?_
            refine xl_pure rfl rfl rfl (pv_assign (v := .bool _) rfl rfl) ?_
            refine xl_nil ?_
            refine xthen_normal ?_
            exact ⟨_, ⟨rfl, rfl, rfl, rfl, rfl, trivial⟩, ⟨(by first | exact ⟨fun _ => by ((try unfold Stands at *); (try unfold Free at *); (try unfold Taken at *); (try unfold Due at *); (try unfold Who at *); (try unfold What at *); (try unfold Sold at *); omega), fun _ => rfl⟩ | exact ⟨fun h => absurd h (by decide), fun h => by ((try unfold Stands at *); (try unfold Free at *); (try unfold Taken at *); (try unfold Due at *); (try unfold Who at *); (try unfold What at *); (try unfold Sold at *); omega)⟩), m0_0, hX⟩⟩
          · skip
            refine xl_pure rfl rfl rfl (pv_pick_t (v := .bool _) rfl rfl rfl) ?_
            refine xl_pure rfl rfl rfl (pv_assign (v := .bool _) rfl rfl) ?_
            refine xl_nil ?_
            refine xthen_normal ?_
            exact ⟨_, ⟨rfl, rfl, rfl, rfl, rfl, trivial⟩, ⟨(by first | exact ⟨fun _ => by ((try unfold Stands at *); (try unfold Free at *); (try unfold Taken at *); (try unfold Due at *); (try unfold Who at *); (try unfold What at *); (try unfold Sold at *); omega), fun _ => rfl⟩ | exact ⟨fun h => absurd h (by decide), fun h => by ((try unfold Stands at *); (try unfold Free at *); (try unfold Taken at *); (try unfold Due at *); (try unfold Who at *); (try unfold What at *); (try unfold Sold at *); omega)⟩), m0_0, hX⟩⟩
        · skip
          refine xl_pure rfl rfl rfl (pv_pick_t (v := .bool _) rfl rfl rfl) ?_
          refine xl_pure rfl rfl rfl (pv_move (v := .bool _) rfl rfl) ?_
          refine xl_skip rfl rfl rfl ?_
          refine xl_skip rfl rfl rfl ?_
          refine xl_pure rfl rfl rfl (pv_pick_f (v := .bool _) rfl rfl rfl) ?_
          refine xl_pure rfl rfl rfl (pv_assign (v := .bool _) rfl rfl) ?_
          refine xl_nil ?_
          refine xthen_normal ?_
          exact ⟨_, ⟨rfl, rfl, rfl, rfl, rfl, trivial⟩, ⟨(by first | exact ⟨fun _ => by ((try unfold Stands at *); (try unfold Free at *); (try unfold Taken at *); (try unfold Due at *); (try unfold Who at *); (try unfold What at *); (try unfold Sold at *); omega), fun _ => rfl⟩ | exact ⟨fun h => absurd h (by decide), fun h => by ((try unfold Stands at *); (try unfold Free at *); (try unfold Taken at *); (try unfold Due at *); (try unfold Who at *); (try unfold What at *); (try unfold Sold at *); omega)⟩), m0_0, hX⟩⟩
    · intro σ
      clear hX m0_0
      rintro so Hm2 ⟨hso, m0_0, hX⟩
      replace hso : so = true ↔ Sold d s := hso
      replace m0_0 : Blk Hm2 b0_0 (dcs d a b c e) 24 := m0_0
      replace hX : Ext H Hm2 := hX
      show XC _ _ _ (upds σ [(1, .int .i64 s), (2, .int .i64 tax), (3, .pointer (some ⟨b0_0, 0, none⟩)), (8, .bool tr), (9, .bool so)]) _
      refine xc_seq ?_
      refine xc_block ?_
      refine xc_seq ?_
      refine xc_region ?_
      refine xl_light rfl rfl rfl (lv_load (v := .agg _) rfl rfl (ld_blk_a m0_0 rfl rfl)) ?_
      refine xl_heavy rfl rfl rfl (hv_call (g := 20) rfl rfl (c20 d a b c e (hs.ext hX) (hs'.ext hX) hl hl') rfl) ?_
      rintro v3_1 H3_1 ⟨e3_1, rfl, hg3_1, hE3_1⟩
      have m0_0 := m0_0.ext hE3_1
      have hX := hX.trans hE3_1
      rcases hg3_1 with ⟨hg3_1, rfl⟩ | ⟨hg3_1, rfl⟩
      · skip
        refine xl_ndec rfl rfl rfl (pv_neq rfl rfl rfl) (fun h3_2 => ?_) (fun h3_2 => ?_)
        · skip
          refine xl_pure rfl rfl rfl (pv_move (v := .bool _) rfl rfl) ?_
          refine xl_pure rfl rfl rfl (pv_move (v := .int _ _) rfl rfl) ?_
          refine xl_pure rfl rfl rfl (pv_fieldAddr rfl rfl) ?_
          refine xl_light rfl rfl rfl (lv_load (v := .int _ _) rfl rfl (ld_blk m0_0 rfl)) ?_
          refine xl_heavy rfl rfl rfl (hv_call (g := 30) rfl rfl (c30 _ _ _) rfl) ?_
          rintro v3_7 H3_7 ⟨r3_7, rfl, hb3_7, rfl⟩
          cases r3_7
          · skip
            replace hb3_7 := mt hb3_7.2 (by decide)
            refine xl_pure rfl rfl rfl (pv_not rfl rfl) ?_
            refine xl_pure rfl rfl rfl (pv_pick_f (v := .bool _) rfl rfl rfl) ?_
            refine xl_pure rfl rfl rfl (pv_move (v := .bool _) rfl rfl) ?_
            refine xl_skip rfl rfl rfl ?_
            refine xl_skip rfl rfl rfl ?_
            refine xl_skip rfl rfl rfl ?_
            refine xl_skip rfl rfl rfl ?_
            refine xl_skip rfl rfl rfl ?_
            refine xl_skip rfl rfl rfl ?_
            refine xl_pure rfl rfl rfl (pv_pick_t (v := .bool _) rfl rfl rfl) ?_
            refine xl_pure rfl rfl rfl (pv_assign (v := .bool _) rfl rfl) ?_
            refine xl_nil ?_
            refine xthen_normal ?_
            refine xc_cond_t rfl ?_
            refine xc_seq ?_
            refine xc_region ?_
            refine xl_pure rfl rfl rfl (pv_assign (v := .slice _ _ _) rfl rfl) ?_
            refine xl_pure rfl rfl rfl (pv_assign (v := .int _ _) rfl rfl) ?_
            refine xl_nil ?_
            refine xthen_normal ?_
            refine xc_ret ?_
            refine xblock_ret ?_
            refine xthen_ret ?_
            refine fin_ret (res2 (v := .slice _ _ _) (x := .int _ _) rfl rfl rfl) ?_
            refine ⟨1, [], none, 0, rfl, sh_bad (fun h => ?_), ⟨wide0, .inl rfl⟩, hX⟩
            first
              | exact hg3_1 h.1
              | exact hb3_7 h.2.1
              | exact hso (h.2.2.resolve_left (by omega))
          · skip
            replace hb3_7 := hb3_7.1 rfl
            refine xl_pure rfl rfl rfl (pv_not rfl rfl) ?_
            refine xl_pure rfl rfl rfl (pv_pick_f (v := .bool _) rfl rfl rfl) ?_
            refine xl_pure rfl rfl rfl (pv_move (v := .bool _) rfl rfl) ?_
            refine xl_pure rfl rfl rfl (pv_move (v := .int _ _) rfl rfl) ?_
            refine xl_dec rfl rfl rfl (pv_gtr rfl rfl rfl) (fun h3_12 => ?_) (fun h3_12 => ?_)
            · skip
              refine xl_pure rfl rfl rfl (pv_move (v := .bool _) rfl rfl) ?_
              refine xl_pure rfl rfl rfl (pv_move (v := .bool _) rfl rfl) ?_
              cases so
              · skip
                replace hso := mt hso.2 (by decide)
                refine xl_pure rfl rfl rfl (pv_not rfl rfl) ?_
                refine xl_pure rfl rfl rfl (pv_pick_t (v := .bool _) rfl rfl rfl) ?_
                refine xl_pure rfl rfl rfl (pv_pick_f (v := .bool _) rfl rfl rfl) ?_
                refine xl_pure rfl rfl rfl (pv_assign (v := .bool _) rfl rfl) ?_
                refine xl_nil ?_
                refine xthen_normal ?_
                refine xc_cond_t rfl ?_
                refine xc_seq ?_
                refine xc_region ?_
                refine xl_pure rfl rfl rfl (pv_assign (v := .slice _ _ _) rfl rfl) ?_
                refine xl_pure rfl rfl rfl (pv_assign (v := .int _ _) rfl rfl) ?_
                refine xl_nil ?_
                refine xthen_normal ?_
                refine xc_ret ?_
                refine xblock_ret ?_
                refine xthen_ret ?_
                refine fin_ret (res2 (v := .slice _ _ _) (x := .int _ _) rfl rfl rfl) ?_
                refine ⟨1, [], none, 0, rfl, sh_bad (fun h => ?_), ⟨wide0, .inl rfl⟩, hX⟩
                first
                  | exact hg3_1 h.1
                  | exact hb3_7 h.2.1
                  | exact hso (h.2.2.resolve_left (by omega))
              · skip
                replace hso := hso.1 rfl
                refine xl_pure rfl rfl rfl (pv_not rfl rfl) ?_
                refine xl_pure rfl rfl rfl (pv_pick_t (v := .bool _) rfl rfl rfl) ?_
                refine xl_pure rfl rfl rfl (pv_pick_f (v := .bool _) rfl rfl rfl) ?_
                refine xl_pure rfl rfl rfl (pv_assign (v := .bool _) rfl rfl) ?_
                refine xl_nil ?_
                refine xthen_normal ?_
                refine xc_cond_f rfl ?_
                refine xc_seq ?_
                refine xc_region ?_
                refine xl_pure rfl rfl rfl (pv_move (v := .bool _) rfl rfl) ?_
                refine xl_pure rfl rfl rfl (pv_not rfl rfl) ?_
                refine xl_pure rfl rfl rfl (pv_move (v := .bool _) rfl rfl) ?_
                refine xl_skip rfl rfl rfl ?_
                refine xl_skip rfl rfl rfl ?_
                refine xl_skip rfl rfl rfl ?_
                refine xl_skip rfl rfl rfl ?_
                refine xl_pure rfl rfl rfl (pv_pick_f (v := .bool _) rfl rfl rfl) ?_
                refine xl_pure rfl rfl rfl (pv_assign (v := .bool _) rfl rfl) ?_
                refine xl_nil ?_
                refine xthen_normal ?_
                refine xc_cond_f rfl ?_
                refine xc_skip ?_
                refine xblock_normal ?_
                refine xthen_normal ?_
                refine xc_seq ?_
                have hpy := good_pay hg3_1
                have hpl := good_pledge hg3_1
                refine xc_region ?_
                refine xl_pure rfl rfl rfl (pv_assign (v := .slice _ _ _) rfl rfl) ?_
                refine xl_nil ?_
                refine xthen_normal ?_
                refine xc_seq ?_
                refine xc_block ?_
                refine xc_seq ?_
                refine xc_region ?_
                refine xl_pure rfl rfl rfl (pv_move (v := .bool _) rfl rfl) ?_
                refine xl_pure rfl rfl rfl (pv_assign (v := .bool _) rfl rfl) ?_
                refine xl_nil ?_
                refine xthen_normal ?_
                refine xc_cond_t rfl ?_
                refine xc_region ?_
                refine xl_pure rfl rfl rfl (pv_fieldAddr rfl rfl) ?_
                refine xl_light rfl rfl rfl (lv_load (v := .int _ _) rfl rfl (ld_blk m0_0 rfl)) ?_
                refine xl_pure rfl rfl rfl (pv_fieldAddr rfl rfl) ?_
                refine xl_light rfl rfl rfl (lv_load (v := .int _ _) rfl rfl (ld_blk m0_0 rfl)) ?_
                refine xl_pure rfl rfl rfl (pv_move (v := .int _ _) rfl rfl) ?_
                refine xl_pure rfl rfl rfl (pv_sub rfl rfl rfl (fit_i64 (by omega))) ?_
                refine xl_pure rfl rfl rfl (pv_build_s (cs := [.int _ _, .int _ _, .int _ _]) rfl rfl rfl) ?_
                refine xl_pure rfl rfl rfl (pv_move (v := .int _ _) rfl rfl) ?_
                refine xl_pure rfl rfl rfl (pv_build_s (cs := [.int _ _, .int _ _, .int _ _]) rfl rfl rfl) ?_
                refine xl_heavy rfl rfl rfl (hv_buildSlice (cs := [.int _ _, .int _ _, .int _ _, .int _ _, .int _ _, .int _ _]) rfl rfl rfl rfl rfl) ?_
                rintro v10_9 H10_9 ⟨b10_9, rfl, hN10_9⟩
                have gb10_9 := hX.fresh hN10_9
                have nm0_0_10_9 := m0_0.apart hN10_9
                have m0_0 := m0_0.ext hN10_9.ext
                have hX := hX.trans hN10_9.ext
                have m10_9 := hN10_9.blk
                refine xl_pure rfl rfl rfl (pv_assign (v := .slice _ _ _) rfl rfl) ?_
                refine xl_nil ?_
                refine xblock_normal ?_
                refine xthen_normal ?_
                refine xc_seq ?_
                refine xc_region ?_
                refine xl_pure rfl rfl rfl (pv_move (v := .slice _ _ _) rfl rfl) ?_
                refine xl_heavy rfl rfl rfl (hv_call (g := 34) rfl rfl (c34 [[0, d.iss, d.pay - tax], [0, 0, tax]] 2 [] wide2 (by simp) m10_9 (by simp) zero 35 (fun i H1 hi => c35r _ (wide2.get hi))) rfl) ?_
                rintro v16_1 H16_1 ⟨a16_1, n16_1, c16_1, rfl, rfl, hR16_1, hB16_1⟩
                have hX := hX.upd hB16_1 gb10_9
                refine xl_pure rfl rfl rfl (pv_assign (v := .slice _ _ _) rfl rfl) ?_
                refine xl_pure rfl rfl rfl (pv_assign (v := .int _ _) rfl rfl) ?_
                refine xl_nil ?_
                refine xthen_normal ?_
                refine xc_ret ?_
                refine fin_ret (res2 (v := .slice _ _ _) (x := .int _ _) rfl rfl rfl) ?_
                exact ⟨0, _, _, _, rfl, sh_ok ⟨hg3_1, hb3_7, by first | exact .inr hso | exact .inl (by omega)⟩ (by first | exact .inl hso | exact .inr hb5_5) (by first | exact all_1 hso | exact all_2 hso htr | exact all_3 hso htr (by unfold Ends at *; omega) | exact all_4 hso htr (by unfold Ends at *; omega) (by omega) | exact all_5 hso htr (by unfold Ends at *; omega) (by omega)), hR16_1, hX⟩
            · skip
              refine xl_pure rfl rfl rfl (pv_move (v := .bool _) rfl rfl) ?_
              refine xl_skip rfl rfl rfl ?_
              refine xl_skip rfl rfl rfl ?_
              refine xl_pure rfl rfl rfl (pv_pick_f (v := .bool _) rfl rfl rfl) ?_
              refine xl_pure rfl rfl rfl (pv_pick_f (v := .bool _) rfl rfl rfl) ?_
              refine xl_pure rfl rfl rfl (pv_assign (v := .bool _) rfl rfl) ?_
              refine xl_nil ?_
              refine xthen_normal ?_
              refine xc_cond_f rfl ?_
              refine xc_seq ?_
              refine xc_region ?_
              refine xl_pure rfl rfl rfl (pv_move (v := .bool _) rfl rfl) ?_
              cases so
              · skip
                replace hso := mt hso.2 (by decide)
                refine xl_pure rfl rfl rfl (pv_not rfl rfl) ?_
                refine xl_pure rfl rfl rfl (pv_move (v := .bool _) rfl rfl) ?_
                refine xl_light rfl rfl rfl (lv_load (v := .agg _) rfl rfl (ld_blk_a m0_0 rfl rfl)) ?_
                refine xl_pure rfl rfl rfl (pv_move (v := .int _ _) rfl rfl) ?_
                refine xl_heavy rfl rfl rfl (hv_call (g := 32) rfl rfl (c32 d a b c e s) rfl) ?_
                rintro v5_5 H5_5 ⟨r5_5, rfl, hb5_5, hE5_5⟩
                have m0_0 := m0_0.ext hE5_5
                have hX := hX.trans hE5_5
                cases r5_5
                · skip
                  replace hb5_5 := mt hb5_5.2 (by decide)
                  refine xl_pure rfl rfl rfl (pv_not rfl rfl) ?_
                  refine xl_pure rfl rfl rfl (pv_pick_t (v := .bool _) rfl rfl rfl) ?_
                  refine xl_pure rfl rfl rfl (pv_assign (v := .bool _) rfl rfl) ?_
                  refine xl_nil ?_
                  refine xthen_normal ?_
                  refine xc_cond_t rfl ?_
                  refine xc_seq ?_
                  refine xc_region ?_
                  refine xl_pure rfl rfl rfl (pv_assign (v := .slice _ _ _) rfl rfl) ?_
                  refine xl_pure rfl rfl rfl (pv_assign (v := .int _ _) rfl rfl) ?_
                  refine xl_nil ?_
                  refine xthen_normal ?_
                  refine xc_ret ?_
                  refine xblock_ret ?_
                  refine xthen_ret ?_
                  refine fin_ret (res2 (v := .slice _ _ _) (x := .int _ _) rfl rfl rfl) ?_
                  exact ⟨9, [], none, 0, rfl, sh_no ⟨hg3_1, hb3_7, by first | exact .inr hso | exact .inl (by omega)⟩ (fun h => h.elim hso hb5_5), ⟨wide0, .inl rfl⟩, hX⟩
                · skip
                  replace hb5_5 := hb5_5.1 rfl
                  refine xl_pure rfl rfl rfl (pv_not rfl rfl) ?_
                  refine xl_pure rfl rfl rfl (pv_pick_t (v := .bool _) rfl rfl rfl) ?_
                  refine xl_pure rfl rfl rfl (pv_assign (v := .bool _) rfl rfl) ?_
                  refine xl_nil ?_
                  refine xthen_normal ?_
                  refine xc_cond_f rfl ?_
                  refine xc_skip ?_
                  refine xblock_normal ?_
                  refine xthen_normal ?_
                  refine xc_seq ?_
                  have hpy := good_pay hg3_1
                  have hpl := good_pledge hg3_1
                  refine xc_region ?_
                  refine xl_pure rfl rfl rfl (pv_assign (v := .slice _ _ _) rfl rfl) ?_
                  refine xl_nil ?_
                  refine xthen_normal ?_
                  refine xc_seq ?_
                  refine xc_block ?_
                  refine xc_seq ?_
                  refine xc_region ?_
                  refine xl_pure rfl rfl rfl (pv_move (v := .bool _) rfl rfl) ?_
                  refine xl_pure rfl rfl rfl (pv_assign (v := .bool _) rfl rfl) ?_
                  refine xl_nil ?_
                  refine xthen_normal ?_
                  refine xc_cond_f rfl ?_
                  refine xc_seq ?_
                  refine xc_region ?_
                  refine xl_pure rfl rfl rfl (pv_move (v := .bool _) rfl rfl) ?_
                  cases tr
                  · skip
                    replace htr := mt htr.2 (by decide)
                    refine xl_pure rfl rfl rfl (pv_assign (v := .bool _) rfl rfl) ?_
                    refine xl_nil ?_
                    refine xthen_normal ?_
                    refine xc_cond_f rfl ?_
                    refine xc_seq ?_
                    refine xc_region ?_
                    refine xl_pure rfl rfl rfl (pv_move (v := .int _ _) rfl rfl) ?_
                    refine xl_dec rfl rfl rfl (pv_eql rfl rfl rfl) (fun h12_1 => ?_) (fun h12_1 => ?_)
                    · skip
                      refine xl_pure rfl rfl rfl (pv_assign (v := .bool _) rfl rfl) ?_
                      refine xl_nil ?_
                      refine xthen_normal ?_
                      refine xc_cond_t rfl ?_
                      refine xc_region ?_
                      refine xl_pure rfl rfl rfl (pv_fieldAddr rfl rfl) ?_
                      refine xl_light rfl rfl rfl (lv_load (v := .int _ _) rfl rfl (ld_blk m0_0 rfl)) ?_
                      refine xl_pure rfl rfl rfl (pv_fieldAddr rfl rfl) ?_
                      refine xl_light rfl rfl rfl (lv_load (v := .int _ _) rfl rfl (ld_blk m0_0 rfl)) ?_
                      refine xl_pure rfl rfl rfl (pv_fieldAddr rfl rfl) ?_
                      refine xl_light rfl rfl rfl (lv_load (v := .int _ _) rfl rfl (ld_blk m0_0 rfl)) ?_
                      refine xl_pure rfl rfl rfl (pv_add rfl rfl rfl (fit_i64 (by omega))) ?_
                      refine xl_pure rfl rfl rfl (pv_build_s (cs := [.int _ _, .int _ _, .int _ _]) rfl rfl rfl) ?_
                      refine xl_heavy rfl rfl rfl (hv_buildSlice (cs := [.int _ _, .int _ _, .int _ _]) rfl rfl rfl rfl rfl) ?_
                      rintro v13_8 H13_8 ⟨b13_8, rfl, hN13_8⟩
                      have gb13_8 := hX.fresh hN13_8
                      have nm0_0_13_8 := m0_0.apart hN13_8
                      have m0_0 := m0_0.ext hN13_8.ext
                      have hX := hX.trans hN13_8.ext
                      have m13_8 := hN13_8.blk
                      refine xl_pure rfl rfl rfl (pv_assign (v := .slice _ _ _) rfl rfl) ?_
                      refine xl_nil ?_
                      refine xblock_normal ?_
                      refine xthen_normal ?_
                      refine xc_seq ?_
                      refine xc_region ?_
                      refine xl_pure rfl rfl rfl (pv_move (v := .slice _ _ _) rfl rfl) ?_
                      refine xl_heavy rfl rfl rfl (hv_call (g := 34) rfl rfl (c34 [[0, d.taker, d.pay + d.pledge]] 1 [] wide1 (by simp) m13_8 (by simp) zero 35 (fun i H1 hi => c35r _ (wide1.get hi))) rfl) ?_
                      rintro v16_1 H16_1 ⟨a16_1, n16_1, c16_1, rfl, rfl, hR16_1, hB16_1⟩
                      have hX := hX.upd hB16_1 gb13_8
                      refine xl_pure rfl rfl rfl (pv_assign (v := .slice _ _ _) rfl rfl) ?_
                      refine xl_pure rfl rfl rfl (pv_assign (v := .int _ _) rfl rfl) ?_
                      refine xl_nil ?_
                      refine xthen_normal ?_
                      refine xc_ret ?_
                      refine fin_ret (res2 (v := .slice _ _ _) (x := .int _ _) rfl rfl rfl) ?_
                      exact ⟨0, _, _, _, rfl, sh_ok ⟨hg3_1, hb3_7, by first | exact .inr hso | exact .inl (by omega)⟩ (by first | exact .inl hso | exact .inr hb5_5) (by first | exact all_1 hso | exact all_2 hso htr | exact all_3 hso htr (by unfold Ends at *; omega) | exact all_4 hso htr (by unfold Ends at *; omega) (by omega) | exact all_5 hso htr (by unfold Ends at *; omega) (by omega)), hR16_1, hX⟩
                    · skip
                      refine xl_pure rfl rfl rfl (pv_assign (v := .bool _) rfl rfl) ?_
                      refine xl_nil ?_
                      refine xthen_normal ?_
                      refine xc_cond_f rfl ?_
                      refine xc_seq ?_
                      refine xc_region ?_
                      refine xl_pure rfl rfl rfl (pv_move (v := .int _ _) rfl rfl) ?_
                      refine xl_dec rfl rfl rfl (pv_eql rfl rfl rfl) (fun h14_1 => ?_) (fun h14_1 => ?_)
                      · skip
                        refine xl_pure rfl rfl rfl (pv_assign (v := .bool _) rfl rfl) ?_
                        refine xl_nil ?_
                        refine xthen_normal ?_
                        refine xc_cond_t rfl ?_
                        refine xc_region ?_
                        refine xl_pure rfl rfl rfl (pv_fieldAddr rfl rfl) ?_
                        refine xl_light rfl rfl rfl (lv_load (v := .int _ _) rfl rfl (ld_blk m0_0 rfl)) ?_
                        refine xl_pure rfl rfl rfl (pv_fieldAddr rfl rfl) ?_
                        refine xl_light rfl rfl rfl (lv_load (v := .int _ _) rfl rfl (ld_blk m0_0 rfl)) ?_
                        refine xl_pure rfl rfl rfl (pv_fieldAddr rfl rfl) ?_
                        refine xl_light rfl rfl rfl (lv_load (v := .int _ _) rfl rfl (ld_blk m0_0 rfl)) ?_
                        refine xl_pure rfl rfl rfl (pv_add rfl rfl rfl (fit_i64 (by omega))) ?_
                        refine xl_pure rfl rfl rfl (pv_build_s (cs := [.int _ _, .int _ _, .int _ _]) rfl rfl rfl) ?_
                        refine xl_heavy rfl rfl rfl (hv_buildSlice (cs := [.int _ _, .int _ _, .int _ _]) rfl rfl rfl rfl rfl) ?_
                        rintro v15_8 H15_8 ⟨b15_8, rfl, hN15_8⟩
                        have gb15_8 := hX.fresh hN15_8
                        have nm0_0_15_8 := m0_0.apart hN15_8
                        have m0_0 := m0_0.ext hN15_8.ext
                        have hX := hX.trans hN15_8.ext
                        have m15_8 := hN15_8.blk
                        refine xl_pure rfl rfl rfl (pv_assign (v := .slice _ _ _) rfl rfl) ?_
                        refine xl_nil ?_
                        refine xblock_normal ?_
                        refine xthen_normal ?_
                        refine xc_seq ?_
                        refine xc_region ?_
                        refine xl_pure rfl rfl rfl (pv_move (v := .slice _ _ _) rfl rfl) ?_
                        refine xl_heavy rfl rfl rfl (hv_call (g := 34) rfl rfl (c34 [[0, d.iss, d.pay + d.pledge]] 1 [] wide1 (by simp) m15_8 (by simp) zero 35 (fun i H1 hi => c35r _ (wide1.get hi))) rfl) ?_
                        rintro v16_1 H16_1 ⟨a16_1, n16_1, c16_1, rfl, rfl, hR16_1, hB16_1⟩
                        have hX := hX.upd hB16_1 gb15_8
                        refine xl_pure rfl rfl rfl (pv_assign (v := .slice _ _ _) rfl rfl) ?_
                        refine xl_pure rfl rfl rfl (pv_assign (v := .int _ _) rfl rfl) ?_
                        refine xl_nil ?_
                        refine xthen_normal ?_
                        refine xc_ret ?_
                        refine fin_ret (res2 (v := .slice _ _ _) (x := .int _ _) rfl rfl rfl) ?_
                        exact ⟨0, _, _, _, rfl, sh_ok ⟨hg3_1, hb3_7, by first | exact .inr hso | exact .inl (by omega)⟩ (by first | exact .inl hso | exact .inr hb5_5) (by first | exact all_1 hso | exact all_2 hso htr | exact all_3 hso htr (by unfold Ends at *; omega) | exact all_4 hso htr (by unfold Ends at *; omega) (by omega) | exact all_5 hso htr (by unfold Ends at *; omega) (by omega)), hR16_1, hX⟩
                      · skip
                        refine xl_pure rfl rfl rfl (pv_assign (v := .bool _) rfl rfl) ?_
                        refine xl_nil ?_
                        refine xthen_normal ?_
                        refine xc_cond_f rfl ?_
                        refine xc_region ?_
                        refine xl_pure rfl rfl rfl (pv_fieldAddr rfl rfl) ?_
                        refine xl_light rfl rfl rfl (lv_load (v := .int _ _) rfl rfl (ld_blk m0_0 rfl)) ?_
                        refine xl_pure rfl rfl rfl (pv_fieldAddr rfl rfl) ?_
                        refine xl_light rfl rfl rfl (lv_load (v := .int _ _) rfl rfl (ld_blk m0_0 rfl)) ?_
                        refine xl_pure rfl rfl rfl (pv_build_s (cs := [.int _ _, .int _ _, .int _ _]) rfl rfl rfl) ?_
                        refine xl_heavy rfl rfl rfl (hv_buildSlice (cs := [.int _ _, .int _ _, .int _ _]) rfl rfl rfl rfl rfl) ?_
                        rintro v8_5 H8_5 ⟨b8_5, rfl, hN8_5⟩
                        have gb8_5 := hX.fresh hN8_5
                        have nm0_0_8_5 := m0_0.apart hN8_5
                        have m0_0 := m0_0.ext hN8_5.ext
                        have hX := hX.trans hN8_5.ext
                        have m8_5 := hN8_5.blk
                        refine xl_pure rfl rfl rfl (pv_assign (v := .slice _ _ _) rfl rfl) ?_
                        refine xl_nil ?_
                        refine xblock_normal ?_
                        refine xthen_normal ?_
                        refine xc_seq ?_
                        refine xc_region ?_
                        refine xl_pure rfl rfl rfl (pv_move (v := .slice _ _ _) rfl rfl) ?_
                        refine xl_heavy rfl rfl rfl (hv_call (g := 34) rfl rfl (c34 [[0, d.iss, d.pay]] 1 [] wide1 (by simp) m8_5 (by simp) zero 35 (fun i H1 hi => c35r _ (wide1.get hi))) rfl) ?_
                        rintro v16_1 H16_1 ⟨a16_1, n16_1, c16_1, rfl, rfl, hR16_1, hB16_1⟩
                        have hX := hX.upd hB16_1 gb8_5
                        refine xl_pure rfl rfl rfl (pv_assign (v := .slice _ _ _) rfl rfl) ?_
                        refine xl_pure rfl rfl rfl (pv_assign (v := .int _ _) rfl rfl) ?_
                        refine xl_nil ?_
                        refine xthen_normal ?_
                        refine xc_ret ?_
                        refine fin_ret (res2 (v := .slice _ _ _) (x := .int _ _) rfl rfl rfl) ?_
                        exact ⟨0, _, _, _, rfl, sh_ok ⟨hg3_1, hb3_7, by first | exact .inr hso | exact .inl (by omega)⟩ (by first | exact .inl hso | exact .inr hb5_5) (by first | exact all_1 hso | exact all_2 hso htr | exact all_3 hso htr (by unfold Ends at *; omega) | exact all_4 hso htr (by unfold Ends at *; omega) (by omega) | exact all_5 hso htr (by unfold Ends at *; omega) (by omega)), hR16_1, hX⟩
                  · skip
                    replace htr := htr.1 rfl
                    refine xl_pure rfl rfl rfl (pv_assign (v := .bool _) rfl rfl) ?_
                    refine xl_nil ?_
                    refine xthen_normal ?_
                    refine xc_cond_t rfl ?_
                    refine xc_skip ?_
                    refine xblock_normal ?_
                    refine xthen_normal ?_
                    refine xc_seq ?_
                    refine xc_region ?_
                    refine xl_pure rfl rfl rfl (pv_move (v := .slice _ _ _) rfl rfl) ?_
                    refine xl_heavy rfl rfl rfl (hv_call (g := 34) rfl rfl (c34n) rfl) ?_
                    rintro v16_1 H16_1 ⟨rfl, hE16_1⟩
                    have m0_0 := m0_0.ext hE16_1
                    have hX := hX.trans hE16_1
                    have hR16_1 : Rows H16_1 none 3 (keep []) := ⟨wide0, .inl rfl⟩
                    refine xl_pure rfl rfl rfl (pv_assign (v := .slice _ _ _) rfl rfl) ?_
                    refine xl_pure rfl rfl rfl (pv_assign (v := .int _ _) rfl rfl) ?_
                    refine xl_nil ?_
                    refine xthen_normal ?_
                    refine xc_ret ?_
                    refine fin_ret (res2 (v := .slice _ _ _) (x := .int _ _) rfl rfl rfl) ?_
                    exact ⟨0, _, _, _, rfl, sh_ok ⟨hg3_1, hb3_7, by first | exact .inr hso | exact .inl (by omega)⟩ (by first | exact .inl hso | exact .inr hb5_5) (by first | exact all_1 hso | exact all_2 hso htr | exact all_3 hso htr (by unfold Ends at *; omega) | exact all_4 hso htr (by unfold Ends at *; omega) (by omega) | exact all_5 hso htr (by unfold Ends at *; omega) (by omega)), hR16_1, hX⟩
              · skip
                replace hso := hso.1 rfl
                refine xl_pure rfl rfl rfl (pv_not rfl rfl) ?_
                refine xl_pure rfl rfl rfl (pv_move (v := .bool _) rfl rfl) ?_
                refine xl_skip rfl rfl rfl ?_
                refine xl_skip rfl rfl rfl ?_
                refine xl_skip rfl rfl rfl ?_
                refine xl_skip rfl rfl rfl ?_
                refine xl_pure rfl rfl rfl (pv_pick_f (v := .bool _) rfl rfl rfl) ?_
                refine xl_pure rfl rfl rfl (pv_assign (v := .bool _) rfl rfl) ?_
                refine xl_nil ?_
                refine xthen_normal ?_
                refine xc_cond_f rfl ?_
                refine xc_skip ?_
                refine xblock_normal ?_
                refine xthen_normal ?_
                refine xc_seq ?_
                have hpy := good_pay hg3_1
                have hpl := good_pledge hg3_1
                refine xc_region ?_
                refine xl_pure rfl rfl rfl (pv_assign (v := .slice _ _ _) rfl rfl) ?_
                refine xl_nil ?_
                refine xthen_normal ?_
                refine xc_seq ?_
                refine xc_block ?_
                refine xc_seq ?_
                refine xc_region ?_
                refine xl_pure rfl rfl rfl (pv_move (v := .bool _) rfl rfl) ?_
                refine xl_pure rfl rfl rfl (pv_assign (v := .bool _) rfl rfl) ?_
                refine xl_nil ?_
                refine xthen_normal ?_
                refine xc_cond_t rfl ?_
                refine xc_region ?_
                refine xl_pure rfl rfl rfl (pv_fieldAddr rfl rfl) ?_
                refine xl_light rfl rfl rfl (lv_load (v := .int _ _) rfl rfl (ld_blk m0_0 rfl)) ?_
                refine xl_pure rfl rfl rfl (pv_fieldAddr rfl rfl) ?_
                refine xl_light rfl rfl rfl (lv_load (v := .int _ _) rfl rfl (ld_blk m0_0 rfl)) ?_
                refine xl_pure rfl rfl rfl (pv_move (v := .int _ _) rfl rfl) ?_
                refine xl_pure rfl rfl rfl (pv_sub rfl rfl rfl (fit_i64 (by omega))) ?_
                refine xl_pure rfl rfl rfl (pv_build_s (cs := [.int _ _, .int _ _, .int _ _]) rfl rfl rfl) ?_
                refine xl_pure rfl rfl rfl (pv_move (v := .int _ _) rfl rfl) ?_
                refine xl_pure rfl rfl rfl (pv_build_s (cs := [.int _ _, .int _ _, .int _ _]) rfl rfl rfl) ?_
                refine xl_heavy rfl rfl rfl (hv_buildSlice (cs := [.int _ _, .int _ _, .int _ _, .int _ _, .int _ _, .int _ _]) rfl rfl rfl rfl rfl) ?_
                rintro v10_9 H10_9 ⟨b10_9, rfl, hN10_9⟩
                have gb10_9 := hX.fresh hN10_9
                have nm0_0_10_9 := m0_0.apart hN10_9
                have m0_0 := m0_0.ext hN10_9.ext
                have hX := hX.trans hN10_9.ext
                have m10_9 := hN10_9.blk
                refine xl_pure rfl rfl rfl (pv_assign (v := .slice _ _ _) rfl rfl) ?_
                refine xl_nil ?_
                refine xblock_normal ?_
                refine xthen_normal ?_
                refine xc_seq ?_
                refine xc_region ?_
                refine xl_pure rfl rfl rfl (pv_move (v := .slice _ _ _) rfl rfl) ?_
                refine xl_heavy rfl rfl rfl (hv_call (g := 34) rfl rfl (c34 [[0, d.iss, d.pay - tax], [0, 0, tax]] 2 [] wide2 (by simp) m10_9 (by simp) zero 35 (fun i H1 hi => c35r _ (wide2.get hi))) rfl) ?_
                rintro v16_1 H16_1 ⟨a16_1, n16_1, c16_1, rfl, rfl, hR16_1, hB16_1⟩
                have hX := hX.upd hB16_1 gb10_9
                refine xl_pure rfl rfl rfl (pv_assign (v := .slice _ _ _) rfl rfl) ?_
                refine xl_pure rfl rfl rfl (pv_assign (v := .int _ _) rfl rfl) ?_
                refine xl_nil ?_
                refine xthen_normal ?_
                refine xc_ret ?_
                refine fin_ret (res2 (v := .slice _ _ _) (x := .int _ _) rfl rfl rfl) ?_
                exact ⟨0, _, _, _, rfl, sh_ok ⟨hg3_1, hb3_7, by first | exact .inr hso | exact .inl (by omega)⟩ (by first | exact .inl hso | exact .inr hb5_5) (by first | exact all_1 hso | exact all_2 hso htr | exact all_3 hso htr (by unfold Ends at *; omega) | exact all_4 hso htr (by unfold Ends at *; omega) (by omega) | exact all_5 hso htr (by unfold Ends at *; omega) (by omega)), hR16_1, hX⟩
        · exact absurd (by decide) h3_2
      · skip
        refine xl_ndec rfl rfl rfl (pv_neq rfl rfl rfl) (fun h3_2 => ?_) (fun h3_2 => ?_)
        · exact absurd h3_2 (by decide)
        · skip
          refine xl_pure rfl rfl rfl (pv_move (v := .bool _) rfl rfl) ?_
          refine xl_skip rfl rfl rfl ?_
          refine xl_skip rfl rfl rfl ?_
          refine xl_skip rfl rfl rfl ?_
          refine xl_skip rfl rfl rfl ?_
          refine xl_skip rfl rfl rfl ?_
          refine xl_pure rfl rfl rfl (pv_pick_t (v := .bool _) rfl rfl rfl) ?_
          refine xl_pure rfl rfl rfl (pv_move (v := .bool _) rfl rfl) ?_
          refine xl_skip rfl rfl rfl ?_
          refine xl_skip rfl rfl rfl ?_
          refine xl_skip rfl rfl rfl ?_
          refine xl_skip rfl rfl rfl ?_
          refine xl_skip rfl rfl rfl ?_
          refine xl_skip rfl rfl rfl ?_
          refine xl_pure rfl rfl rfl (pv_pick_t (v := .bool _) rfl rfl rfl) ?_
          refine xl_pure rfl rfl rfl (pv_assign (v := .bool _) rfl rfl) ?_
          refine xl_nil ?_
          refine xthen_normal ?_
          refine xc_cond_t rfl ?_
          refine xc_seq ?_
          refine xc_region ?_
          refine xl_pure rfl rfl rfl (pv_assign (v := .slice _ _ _) rfl rfl) ?_
          refine xl_pure rfl rfl rfl (pv_assign (v := .int _ _) rfl rfl) ?_
          refine xl_nil ?_
          refine xthen_normal ?_
          refine xc_ret ?_
          refine xblock_ret ?_
          refine xthen_ret ?_
          refine fin_ret (res2 (v := .slice _ _ _) (x := .int _ _) rfl rfl rfl) ?_
          refine ⟨1, [], none, 0, rfl, sh_bad (fun h => ?_), ⟨wide0, .inl rfl⟩, hX⟩
          first
            | exact hg3_1 h.1
            | exact hb3_7 h.2.1
            | exact hso (h.2.2.resolve_left (by omega))
end Go.XG
