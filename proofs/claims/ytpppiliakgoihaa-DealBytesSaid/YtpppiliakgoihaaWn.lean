/-
  Walks of the seat's functions over the logic XG: each function, what it computes. Printed by a program out of wip/walks.py.
-/
import Derived.Test.YtpppiliakgoihaaI
import Derived.Test.YtpppiliakgoihaaG
import Derived.Test.YtpppiliakgoihaaP
import Derived.Test.YtpppiliakgoihaaWa
import Derived.Test.YtpppiliakgoihaaWb
import Derived.Test.YtpppiliakgoihaaWc
import Derived.Test.YtpppiliakgoihaaWd
import Derived.Test.YtpppiliakgoihaaQ
import Derived.Test.YtpppiliakgoihaaR
import Derived.Test.YtpppiliakgoihaaXg
import Derived.Test.YtpppiliakgoihaaWe
import Derived.Test.YtpppiliakgoihaaWf
import Derived.Test.YtpppiliakgoihaaWg
import Derived.Test.YtpppiliakgoihaaWh
import Derived.Test.YtpppiliakgoihaaWi
import Derived.Test.YtpppiliakgoihaaWj
import Derived.Test.YtpppiliakgoihaaWk
import Derived.Test.YtpppiliakgoihaaV
import Derived.Test.YtpppiliakgoihaaXh
import Derived.Test.YtpppiliakgoihaaWl
import Derived.Test.YtpppiliakgoihaaWm
namespace Go.XG
open Go.Proofs
set_option maxRecDepth 4000
set_option maxHeartbeats 4000000
theorem c17 {O : Outer} {H : Heap} (d : D) (a b : Option Addr) (c e : Nat) (s tax : Int) (hs : Stks H a d.gives) (hs' : Stks H b d.wants) (hl : d.gives.length < 1099511627776) (hl' : d.wants.length < 1099511627776) :
    FnC Try.prog 17 #[.agg (dcs d a b c e).toArray, .int .i64 s, .int .i64 tax] O H (fun v H' => ∃ e l a' c', v = .tuple #[.slice a' (List.length l) c', .int .i64 e] ∧ (e, l) = sharesD d s tax ∧ Rows H' a' 3 l ∧ Ext H H') := by
  refine fn_enter (A := [.agg (dcs d a b c e).toArray, .int .i64 s, .int .i64 tax]) Try.func17 rfl rfl ?_
  have hX := Ext.refl H
  refine xc_seq ?_
  refine xc_region ?_
  refine xl_heavy rfl rfl rfl (hv_box rfl rfl) ?_
  rintro v0_0 H0_0 ⟨b0_0, rfl, hN0_0⟩
  have gb0_0 := hX.fresh hN0_0
  have hX := hX.trans hN0_0.ext
  have m0_0 := hN0_0.blk
  refine xl_pure rfl rfl rfl (pv_assign (v := .slice _ _ _) rfl rfl) ?_
  refine xl_pure rfl rfl rfl (pv_assign (v := .int _ _) rfl rfl) ?_
  refine xl_nil ?_
  refine xthen_normal ?_
  refine xc_cut (τ := Bool) (fun t => [(1, .int .i64 s), (2, .int .i64 tax), (3, .pointer (some ⟨b0_0, 0, none⟩)), (8, .bool t)]) (fun t H' => (t = true ↔ Sold d s) ∧ (Blk H' b0_0 (dcs d a b c e) 24) ∧ (Ext H H')) ?_ ?_
  · skip
    refine xc_region ?_
    refine xl_pure rfl rfl rfl (pv_fieldAddr rfl rfl) ?_
    refine xl_light rfl rfl rfl (lv_load (v := .int _ _) rfl rfl (ld_blk m0_0 rfl)) ?_
    refine xl_dec rfl rfl rfl (pv_eql rfl rfl rfl) (fun h1_2 => ?_) (fun h1_2 => ?_)
    · skip
      refine xl_pure rfl rfl rfl (pv_move (v := .bool _) rfl rfl) ?_
      refine xl_pure rfl rfl rfl (pv_fieldAddr rfl rfl) ?_
      refine xl_light rfl rfl rfl (lv_load (v := .int _ _) rfl rfl (ld_blk m0_0 rfl)) ?_
      refine xl_dec rfl rfl rfl (pv_eql rfl rfl rfl) (fun h1_6 => ?_) (fun h1_6 => ?_)
      · skip
        refine xl_pure rfl rfl rfl (pv_pick_t (v := .bool _) rfl rfl rfl) ?_
        refine xl_pure rfl rfl rfl (pv_move (v := .bool _) rfl rfl) ?_
        refine xl_pure rfl rfl rfl (pv_move (v := .int _ _) rfl rfl) ?_
        refine xl_dec rfl rfl rfl (pv_eql rfl rfl rfl) (fun h1_10 => ?_) (fun h1_10 => ?_)
        · skip
          refine xl_pure rfl rfl rfl (pv_pick_t (v := .bool _) rfl rfl rfl) ?_
          refine xl_pure rfl rfl rfl (pv_assign (v := .bool _) rfl rfl) ?_
          refine xl_nil ?_
          refine xthen_normal ?_
          exact ⟨_, ⟨rfl, rfl, rfl, rfl, trivial⟩, ⟨(by first | exact ⟨fun _ => by ((try unfold Stands at *); (try unfold Free at *); (try unfold Taken at *); (try unfold Due at *); (try unfold Who at *); (try unfold What at *); (try unfold Sold at *); omega), fun _ => rfl⟩ | exact ⟨fun h => absurd h (by decide), fun h => by ((try unfold Stands at *); (try unfold Free at *); (try unfold Taken at *); (try unfold Due at *); (try unfold Who at *); (try unfold What at *); (try unfold Sold at *); omega)⟩), m0_0, hX⟩⟩
        · skip
          refine xl_pure rfl rfl rfl (pv_pick_t (v := .bool _) rfl rfl rfl) ?_
          refine xl_pure rfl rfl rfl (pv_assign (v := .bool _) rfl rfl) ?_
          refine xl_nil ?_
          refine xthen_normal ?_
          exact ⟨_, ⟨rfl, rfl, rfl, rfl, trivial⟩, ⟨(by first | exact ⟨fun _ => by ((try unfold Stands at *); (try unfold Free at *); (try unfold Taken at *); (try unfold Due at *); (try unfold Who at *); (try unfold What at *); (try unfold Sold at *); omega), fun _ => rfl⟩ | exact ⟨fun h => absurd h (by decide), fun h => by ((try unfold Stands at *); (try unfold Free at *); (try unfold Taken at *); (try unfold Due at *); (try unfold Who at *); (try unfold What at *); (try unfold Sold at *); omega)⟩), m0_0, hX⟩⟩
      · skip
        refine xl_pure rfl rfl rfl (pv_pick_t (v := .bool _) rfl rfl rfl) ?_
        refine xl_pure rfl rfl rfl (pv_move (v := .bool _) rfl rfl) ?_
        refine xl_skip rfl rfl rfl ?_
        refine xl_skip rfl rfl rfl ?_
        refine xl_pure rfl rfl rfl (pv_pick_f (v := .bool _) rfl rfl rfl) ?_
        refine xl_pure rfl rfl rfl (pv_assign (v := .bool _) rfl rfl) ?_
        refine xl_nil ?_
        refine xthen_normal ?_
        exact ⟨_, ⟨rfl, rfl, rfl, rfl, trivial⟩, ⟨(by first | exact ⟨fun _ => by ((try unfold Stands at *); (try unfold Free at *); (try unfold Taken at *); (try unfold Due at *); (try unfold Who at *); (try unfold What at *); (try unfold Sold at *); omega), fun _ => rfl⟩ | exact ⟨fun h => absurd h (by decide), fun h => by ((try unfold Stands at *); (try unfold Free at *); (try unfold Taken at *); (try unfold Due at *); (try unfold Who at *); (try unfold What at *); (try unfold Sold at *); omega)⟩), m0_0, hX⟩⟩
    · skip
      refine xl_pure rfl rfl rfl (pv_move (v := .bool _) rfl rfl) ?_
      refine xl_skip rfl rfl rfl ?_
      refine xl_skip rfl rfl rfl ?_
      refine xl_skip rfl rfl rfl ?_
      refine xl_pure rfl rfl rfl (pv_pick_f (v := .bool _) rfl rfl rfl) ?_
      refine xl_pure rfl rfl rfl (pv_move (v := .bool _) rfl rfl) ?_
      refine xl_skip rfl rfl rfl ?_
      refine xl_skip rfl rfl rfl ?_
      refine xl_pure rfl rfl rfl (pv_pick_f (v := .bool _) rfl rfl rfl) ?_
      refine xl_pure rfl rfl rfl (pv_assign (v := .bool _) rfl rfl) ?_
      refine xl_nil ?_
      refine xthen_normal ?_
      exact ⟨_, ⟨rfl, rfl, rfl, rfl, trivial⟩, ⟨(by first | exact ⟨fun _ => by ((try unfold Stands at *); (try unfold Free at *); (try unfold Taken at *); (try unfold Due at *); (try unfold Who at *); (try unfold What at *); (try unfold Sold at *); omega), fun _ => rfl⟩ | exact ⟨fun h => absurd h (by decide), fun h => by ((try unfold Stands at *); (try unfold Free at *); (try unfold Taken at *); (try unfold Due at *); (try unfold Who at *); (try unfold What at *); (try unfold Sold at *); omega)⟩), m0_0, hX⟩⟩
  · intro σ
    clear hX m0_0
    rintro so Hm1 ⟨hso, m0_0, hX⟩
    replace hso : so = true ↔ Sold d s := hso
    replace m0_0 : Blk Hm1 b0_0 (dcs d a b c e) 24 := m0_0
    replace hX : Ext H Hm1 := hX
    show XC _ _ _ (upds σ [(1, .int .i64 s), (2, .int .i64 tax), (3, .pointer (some ⟨b0_0, 0, none⟩)), (8, .bool so)]) _
    refine xc_seq ?_
    refine xc_seq ?_
    refine xc_region ?_
    refine xl_light rfl rfl rfl (lv_load (v := .agg _) rfl rfl (ld_blk_a m0_0 rfl rfl)) ?_
    refine xl_heavy rfl rfl rfl (hv_call (g := 21) rfl rfl (c21 d a b c e (hs.ext hX) (hs'.ext hX) hl hl') rfl) ?_
    rintro v2_1 H2_1 ⟨e2_1, rfl, hg2_1, hE2_1⟩
    have m0_0 := m0_0.ext hE2_1
    have hX := hX.trans hE2_1
    rcases hg2_1 with ⟨hg2_1, rfl⟩ | ⟨hg2_1, rfl⟩
    · skip
      refine xl_ndec rfl rfl rfl (pv_neq rfl rfl rfl) (fun h2_2 => ?_) (fun h2_2 => ?_)
      · skip
        refine xl_pure rfl rfl rfl (pv_move (v := .bool _) rfl rfl) ?_
        refine xl_pure rfl rfl rfl (pv_move (v := .int _ _) rfl rfl) ?_
        refine xl_pure rfl rfl rfl (pv_fieldAddr rfl rfl) ?_
        refine xl_light rfl rfl rfl (lv_load (v := .int _ _) rfl rfl (ld_blk m0_0 rfl)) ?_
        refine xl_heavy rfl rfl rfl (hv_call (g := 31) rfl rfl (c31 _ _ _) rfl) ?_
        rintro v2_7 H2_7 ⟨r2_7, rfl, hb2_7, rfl⟩
        cases r2_7
        · skip
          replace hb2_7 := mt hb2_7.2 (by decide)
          refine xl_pure rfl rfl rfl (pv_not rfl rfl) ?_
          refine xl_pure rfl rfl rfl (pv_pick_f (v := .bool _) rfl rfl rfl) ?_
          refine xl_pure rfl rfl rfl (pv_move (v := .bool _) rfl rfl) ?_
          refine xl_skip rfl rfl rfl ?_
          refine xl_skip rfl rfl rfl ?_
          refine xl_skip rfl rfl rfl ?_
          refine xl_skip rfl rfl rfl ?_
          refine xl_skip rfl rfl rfl ?_
          refine xl_skip rfl rfl rfl ?_
          refine xl_pure rfl rfl rfl (pv_pick_t (v := .bool _) rfl rfl rfl) ?_
          refine xl_nil ?_
          refine xthen_normal ?_
          refine xc_cond_t rfl ?_
          refine xc_seq ?_
          refine xc_region ?_
          refine xl_pure rfl rfl rfl (pv_assign (v := .slice _ _ _) rfl rfl) ?_
          refine xl_pure rfl rfl rfl (pv_assign (v := .int _ _) rfl rfl) ?_
          refine xl_nil ?_
          refine xthen_normal ?_
          refine xc_ret ?_
          refine xthen_ret ?_
          refine fin_ret (res2 (v := .slice _ _ _) (x := .int _ _) rfl rfl rfl) ?_
          refine ⟨1, [], none, 0, rfl, sh_bad (fun h => ?_), ⟨wide0, .inl rfl⟩, hX⟩
          first
            | exact hg2_1 h.1
            | exact hb2_7 h.2.1
            | exact hso (h.2.2.resolve_left (by omega))
        · skip
          replace hb2_7 := hb2_7.1 rfl
          refine xl_pure rfl rfl rfl (pv_not rfl rfl) ?_
          refine xl_pure rfl rfl rfl (pv_pick_f (v := .bool _) rfl rfl rfl) ?_
          refine xl_pure rfl rfl rfl (pv_move (v := .bool _) rfl rfl) ?_
          refine xl_pure rfl rfl rfl (pv_move (v := .int _ _) rfl rfl) ?_
          refine xl_ndec rfl rfl rfl (pv_neq rfl rfl rfl) (fun h2_12 => ?_) (fun h2_12 => ?_)
          · skip
            refine xl_pure rfl rfl rfl (pv_move (v := .bool _) rfl rfl) ?_
            refine xl_skip rfl rfl rfl ?_
            refine xl_skip rfl rfl rfl ?_
            refine xl_pure rfl rfl rfl (pv_pick_f (v := .bool _) rfl rfl rfl) ?_
            refine xl_pure rfl rfl rfl (pv_pick_f (v := .bool _) rfl rfl rfl) ?_
            refine xl_nil ?_
            refine xthen_normal ?_
            refine xc_cond_f rfl ?_
            refine xc_skip ?_
            refine xthen_normal ?_
            refine xc_seq ?_
            refine xc_seq ?_
            refine xc_region ?_
            refine xl_pure rfl rfl rfl (pv_move (v := .bool _) rfl rfl) ?_
            cases so
            · skip
              replace hso := mt hso.2 (by decide)
              refine xl_pure rfl rfl rfl (pv_not rfl rfl) ?_
              refine xl_pure rfl rfl rfl (pv_move (v := .bool _) rfl rfl) ?_
              refine xl_light rfl rfl rfl (lv_load (v := .agg _) rfl rfl (ld_blk_a m0_0 rfl rfl)) ?_
              refine xl_pure rfl rfl rfl (pv_move (v := .int _ _) rfl rfl) ?_
              refine xl_heavy rfl rfl rfl (hv_call (g := 33) rfl rfl (c33 d a b c e s) rfl) ?_
              rintro v4_5 H4_5 ⟨r4_5, rfl, hb4_5, hE4_5⟩
              have m0_0 := m0_0.ext hE4_5
              have hX := hX.trans hE4_5
              cases r4_5
              · skip
                replace hb4_5 := mt hb4_5.2 (by decide)
                refine xl_pure rfl rfl rfl (pv_not rfl rfl) ?_
                refine xl_pure rfl rfl rfl (pv_pick_t (v := .bool _) rfl rfl rfl) ?_
                refine xl_nil ?_
                refine xthen_normal ?_
                refine xc_cond_t rfl ?_
                refine xc_seq ?_
                refine xc_region ?_
                refine xl_pure rfl rfl rfl (pv_assign (v := .slice _ _ _) rfl rfl) ?_
                refine xl_pure rfl rfl rfl (pv_assign (v := .int _ _) rfl rfl) ?_
                refine xl_nil ?_
                refine xthen_normal ?_
                refine xc_ret ?_
                refine xthen_ret ?_
                refine fin_ret (res2 (v := .slice _ _ _) (x := .int _ _) rfl rfl rfl) ?_
                exact ⟨9, [], none, 0, rfl, sh_no ⟨hg2_1, hb2_7, by first | exact .inr hso | exact .inl (by omega)⟩ (fun h => h.elim hso hb4_5), ⟨wide0, .inl rfl⟩, hX⟩
              · skip
                replace hb4_5 := hb4_5.1 rfl
                refine xl_pure rfl rfl rfl (pv_not rfl rfl) ?_
                refine xl_pure rfl rfl rfl (pv_pick_t (v := .bool _) rfl rfl rfl) ?_
                refine xl_nil ?_
                refine xthen_normal ?_
                refine xc_cond_f rfl ?_
                refine xc_skip ?_
                refine xthen_normal ?_
                refine xc_seq ?_
                have hpy := good_pay hg2_1
                have hpl := good_pledge hg2_1
                refine xc_region ?_
                refine xl_pure rfl rfl rfl (pv_assign (v := .slice _ _ _) rfl rfl) ?_
                refine xl_nil ?_
                refine xthen_normal ?_
                refine xc_cut (τ := List (List Int) × Option Addr × Nat) (fun t => [(9, .slice t.2.1 (List.length t.1) t.2.2)]) (fun t H' => (t.1 = allD d s tax) ∧ (Rows H' t.2.1 3 t.1) ∧ (Ext H H')) ?_ ?_
                · skip
                  refine xc_block ?_
                  refine xc_seq ?_
                  refine xc_region ?_
                  refine xl_pure rfl rfl rfl (pv_move (v := .bool _) rfl rfl) ?_
                  refine xl_pure rfl rfl rfl (pv_assign (v := .bool _) rfl rfl) ?_
                  refine xl_nil ?_
                  refine xthen_normal ?_
                  refine xc_cond_f rfl ?_
                  refine xc_seq ?_
                  refine xc_region ?_
                  refine xl_pure rfl rfl rfl (pv_fieldAddr rfl rfl) ?_
                  refine xl_light rfl rfl rfl (lv_load (v := .int _ _) rfl rfl (ld_blk m0_0 rfl)) ?_
                  refine xl_dec rfl rfl rfl (pv_eql rfl rfl rfl) (fun h11_2 => ?_) (fun h11_2 => ?_)
                  · skip
                    refine xl_pure rfl rfl rfl (pv_assign (v := .bool _) rfl rfl) ?_
                    refine xl_nil ?_
                    refine xthen_normal ?_
                    refine xc_cond_t rfl ?_
                    refine xc_skip ?_
                    refine xblock_normal ?_
                    refine xthen_normal ?_
                    first
                      | exact ⟨([[0, d.iss, d.pay - tax], [0, 0, tax]], _, _), ⟨rfl, trivial⟩, ⟨all_1 hso, own_rows (by first | exact wide1 | exact wide2) (by simpa [fr, ints] using hO10_4), hX⟩⟩
                      | exact ⟨([], _, _), ⟨rfl, trivial⟩, ⟨all_2 hso (by omega), ⟨wide0, .inl rfl⟩, hX⟩⟩
                      | exact ⟨([[0, d.iss, d.pay]], _, _), ⟨rfl, trivial⟩, ⟨all_3 hso (by omega) (by omega), own_rows (by first | exact wide1 | exact wide2) (by simpa [fr, ints] using hO13_7), hX⟩⟩
                      | exact ⟨([[0, d.taker, d.pay + d.pledge]], _, _), ⟨rfl, trivial⟩, ⟨all_4 hso (by omega) (by omega) (by omega), own_rows (by first | exact wide1 | exact wide2) (by simpa [fr, ints] using hO15_10), hX⟩⟩
                      | exact ⟨([[0, d.iss, d.pay + d.pledge]], _, _), ⟨rfl, trivial⟩, ⟨all_5 hso (by omega) (by omega) (by omega), own_rows (by first | exact wide1 | exact wide2) (by simpa [fr, ints] using hO7_10), hX⟩⟩
                  · skip
                    refine xl_pure rfl rfl rfl (pv_assign (v := .bool _) rfl rfl) ?_
                    refine xl_nil ?_
                    refine xthen_normal ?_
                    refine xc_cond_f rfl ?_
                    refine xc_seq ?_
                    refine xc_region ?_
                    refine xl_pure rfl rfl rfl (pv_fieldAddr rfl rfl) ?_
                    refine xl_light rfl rfl rfl (lv_load (v := .int _ _) rfl rfl (ld_blk m0_0 rfl)) ?_
                    refine xl_dec rfl rfl rfl (pv_eql rfl rfl rfl) (fun h12_2 => ?_) (fun h12_2 => ?_)
                    · skip
                      refine xl_pure rfl rfl rfl (pv_assign (v := .bool _) rfl rfl) ?_
                      refine xl_nil ?_
                      refine xthen_normal ?_
                      refine xc_cond_t rfl ?_
                      refine xc_region ?_
                      refine xl_pure rfl rfl rfl (pv_move (v := .slice _ _ _) rfl rfl) ?_
                      refine xl_pure rfl rfl rfl (pv_fieldAddr rfl rfl) ?_
                      refine xl_light rfl rfl rfl (lv_load (v := .int _ _) rfl rfl (ld_blk m0_0 rfl)) ?_
                      refine xl_pure rfl rfl rfl (pv_fieldAddr rfl rfl) ?_
                      refine xl_light rfl rfl rfl (lv_load (v := .int _ _) rfl rfl (ld_blk m0_0 rfl)) ?_
                      refine xl_pure rfl rfl rfl (pv_build_s (cs := [.int _ _, .int _ _, .int _ _]) rfl rfl rfl) ?_
                      refine xl_heavy rfl rfl rfl (hv_buildSlice (cs := [.int _ _, .int _ _, .int _ _]) rfl rfl rfl rfl rfl) ?_
                      rintro v13_6 H13_6 ⟨b13_6, rfl, hN13_6⟩
                      have gb13_6 := hX.fresh hN13_6
                      have nm0_0_13_6 := m0_0.apart hN13_6
                      have m0_0 := m0_0.ext hN13_6.ext
                      have hX := hX.trans hN13_6.ext
                      have m13_6 := hN13_6.blk
                      refine xl_heavy rfl rfl rfl (hv_append rfl rfl (Own.nil _ H.size 50 3) rfl (m13_6.row) rfl (by simp [Value.oneCell']) rfl (by decide) (by omega) (by omega) hX.size) ?_
                      rintro v13_7 H13_7 ⟨hO13_7, hG13_7, -, hB13_7⟩
                      have m0_0 := m0_0.offT (Own.nil _ H.size 50 3) hG13_7 rfl
                      have hX := (Own.nil _ H.size 50 3).grown hX hG13_7 (Nat.le_refl _)
                      obtain ⟨a13_7, c13_7, rfl⟩ := hO13_7.val
                      refine xl_pure rfl rfl rfl (pv_assign (v := .slice _ _ _) rfl rfl) ?_
                      refine xl_nil ?_
                      refine xblock_normal ?_
                      refine xthen_normal ?_
                      first
                        | exact ⟨([[0, d.iss, d.pay - tax], [0, 0, tax]], _, _), ⟨rfl, trivial⟩, ⟨all_1 hso, own_rows (by first | exact wide1 | exact wide2) (by simpa [fr, ints] using hO10_4), hX⟩⟩
                        | exact ⟨([], _, _), ⟨rfl, trivial⟩, ⟨all_2 hso (by omega), ⟨wide0, .inl rfl⟩, hX⟩⟩
                        | exact ⟨([[0, d.iss, d.pay]], _, _), ⟨rfl, trivial⟩, ⟨all_3 hso (by omega) (by omega), own_rows (by first | exact wide1 | exact wide2) (by simpa [fr, ints] using hO13_7), hX⟩⟩
                        | exact ⟨([[0, d.taker, d.pay + d.pledge]], _, _), ⟨rfl, trivial⟩, ⟨all_4 hso (by omega) (by omega) (by omega), own_rows (by first | exact wide1 | exact wide2) (by simpa [fr, ints] using hO15_10), hX⟩⟩
                        | exact ⟨([[0, d.iss, d.pay + d.pledge]], _, _), ⟨rfl, trivial⟩, ⟨all_5 hso (by omega) (by omega) (by omega), own_rows (by first | exact wide1 | exact wide2) (by simpa [fr, ints] using hO7_10), hX⟩⟩
                    · skip
                      refine xl_pure rfl rfl rfl (pv_assign (v := .bool _) rfl rfl) ?_
                      refine xl_nil ?_
                      refine xthen_normal ?_
                      refine xc_cond_f rfl ?_
                      refine xc_seq ?_
                      refine xc_region ?_
                      refine xl_pure rfl rfl rfl (pv_move (v := .int _ _) rfl rfl) ?_
                      refine xl_dec rfl rfl rfl (pv_eql rfl rfl rfl) (fun h14_1 => ?_) (fun h14_1 => ?_)
                      · skip
                        refine xl_pure rfl rfl rfl (pv_assign (v := .bool _) rfl rfl) ?_
                        refine xl_nil ?_
                        refine xthen_normal ?_
                        refine xc_cond_t rfl ?_
                        refine xc_region ?_
                        refine xl_pure rfl rfl rfl (pv_move (v := .slice _ _ _) rfl rfl) ?_
                        refine xl_pure rfl rfl rfl (pv_fieldAddr rfl rfl) ?_
                        refine xl_light rfl rfl rfl (lv_load (v := .int _ _) rfl rfl (ld_blk m0_0 rfl)) ?_
                        refine xl_pure rfl rfl rfl (pv_fieldAddr rfl rfl) ?_
                        refine xl_light rfl rfl rfl (lv_load (v := .int _ _) rfl rfl (ld_blk m0_0 rfl)) ?_
                        refine xl_pure rfl rfl rfl (pv_fieldAddr rfl rfl) ?_
                        refine xl_light rfl rfl rfl (lv_load (v := .int _ _) rfl rfl (ld_blk m0_0 rfl)) ?_
                        refine xl_pure rfl rfl rfl (pv_add rfl rfl rfl (fit_i64 (by omega))) ?_
                        refine xl_pure rfl rfl rfl (pv_build_s (cs := [.int _ _, .int _ _, .int _ _]) rfl rfl rfl) ?_
                        refine xl_heavy rfl rfl rfl (hv_buildSlice (cs := [.int _ _, .int _ _, .int _ _]) rfl rfl rfl rfl rfl) ?_
                        rintro v15_9 H15_9 ⟨b15_9, rfl, hN15_9⟩
                        have gb15_9 := hX.fresh hN15_9
                        have nm0_0_15_9 := m0_0.apart hN15_9
                        have m0_0 := m0_0.ext hN15_9.ext
                        have hX := hX.trans hN15_9.ext
                        have m15_9 := hN15_9.blk
                        refine xl_heavy rfl rfl rfl (hv_append rfl rfl (Own.nil _ H.size 50 3) rfl (m15_9.row) rfl (by simp [Value.oneCell']) rfl (by decide) (by omega) (by omega) hX.size) ?_
                        rintro v15_10 H15_10 ⟨hO15_10, hG15_10, -, hB15_10⟩
                        have m0_0 := m0_0.offT (Own.nil _ H.size 50 3) hG15_10 rfl
                        have hX := (Own.nil _ H.size 50 3).grown hX hG15_10 (Nat.le_refl _)
                        obtain ⟨a15_10, c15_10, rfl⟩ := hO15_10.val
                        refine xl_pure rfl rfl rfl (pv_assign (v := .slice _ _ _) rfl rfl) ?_
                        refine xl_nil ?_
                        refine xblock_normal ?_
                        refine xthen_normal ?_
                        first
                          | exact ⟨([[0, d.iss, d.pay - tax], [0, 0, tax]], _, _), ⟨rfl, trivial⟩, ⟨all_1 hso, own_rows (by first | exact wide1 | exact wide2) (by simpa [fr, ints] using hO10_4), hX⟩⟩
                          | exact ⟨([], _, _), ⟨rfl, trivial⟩, ⟨all_2 hso (by omega), ⟨wide0, .inl rfl⟩, hX⟩⟩
                          | exact ⟨([[0, d.iss, d.pay]], _, _), ⟨rfl, trivial⟩, ⟨all_3 hso (by omega) (by omega), own_rows (by first | exact wide1 | exact wide2) (by simpa [fr, ints] using hO13_7), hX⟩⟩
                          | exact ⟨([[0, d.taker, d.pay + d.pledge]], _, _), ⟨rfl, trivial⟩, ⟨all_4 hso (by omega) (by omega) (by omega), own_rows (by first | exact wide1 | exact wide2) (by simpa [fr, ints] using hO15_10), hX⟩⟩
                          | exact ⟨([[0, d.iss, d.pay + d.pledge]], _, _), ⟨rfl, trivial⟩, ⟨all_5 hso (by omega) (by omega) (by omega), own_rows (by first | exact wide1 | exact wide2) (by simpa [fr, ints] using hO7_10), hX⟩⟩
                      · skip
                        refine xl_pure rfl rfl rfl (pv_assign (v := .bool _) rfl rfl) ?_
                        refine xl_nil ?_
                        refine xthen_normal ?_
                        refine xc_cond_f rfl ?_
                        refine xc_region ?_
                        refine xl_pure rfl rfl rfl (pv_move (v := .slice _ _ _) rfl rfl) ?_
                        refine xl_pure rfl rfl rfl (pv_fieldAddr rfl rfl) ?_
                        refine xl_light rfl rfl rfl (lv_load (v := .int _ _) rfl rfl (ld_blk m0_0 rfl)) ?_
                        refine xl_pure rfl rfl rfl (pv_fieldAddr rfl rfl) ?_
                        refine xl_light rfl rfl rfl (lv_load (v := .int _ _) rfl rfl (ld_blk m0_0 rfl)) ?_
                        refine xl_pure rfl rfl rfl (pv_fieldAddr rfl rfl) ?_
                        refine xl_light rfl rfl rfl (lv_load (v := .int _ _) rfl rfl (ld_blk m0_0 rfl)) ?_
                        refine xl_pure rfl rfl rfl (pv_add rfl rfl rfl (fit_i64 (by omega))) ?_
                        refine xl_pure rfl rfl rfl (pv_build_s (cs := [.int _ _, .int _ _, .int _ _]) rfl rfl rfl) ?_
                        refine xl_heavy rfl rfl rfl (hv_buildSlice (cs := [.int _ _, .int _ _, .int _ _]) rfl rfl rfl rfl rfl) ?_
                        rintro v7_9 H7_9 ⟨b7_9, rfl, hN7_9⟩
                        have gb7_9 := hX.fresh hN7_9
                        have nm0_0_7_9 := m0_0.apart hN7_9
                        have m0_0 := m0_0.ext hN7_9.ext
                        have hX := hX.trans hN7_9.ext
                        have m7_9 := hN7_9.blk
                        refine xl_heavy rfl rfl rfl (hv_append rfl rfl (Own.nil _ H.size 50 3) rfl (m7_9.row) rfl (by simp [Value.oneCell']) rfl (by decide) (by omega) (by omega) hX.size) ?_
                        rintro v7_10 H7_10 ⟨hO7_10, hG7_10, -, hB7_10⟩
                        have m0_0 := m0_0.offT (Own.nil _ H.size 50 3) hG7_10 rfl
                        have hX := (Own.nil _ H.size 50 3).grown hX hG7_10 (Nat.le_refl _)
                        obtain ⟨a7_10, c7_10, rfl⟩ := hO7_10.val
                        refine xl_pure rfl rfl rfl (pv_assign (v := .slice _ _ _) rfl rfl) ?_
                        refine xl_nil ?_
                        refine xblock_normal ?_
                        refine xthen_normal ?_
                        first
                          | exact ⟨([[0, d.iss, d.pay - tax], [0, 0, tax]], _, _), ⟨rfl, trivial⟩, ⟨all_1 hso, own_rows (by first | exact wide1 | exact wide2) (by simpa [fr, ints] using hO10_4), hX⟩⟩
                          | exact ⟨([], _, _), ⟨rfl, trivial⟩, ⟨all_2 hso (by omega), ⟨wide0, .inl rfl⟩, hX⟩⟩
                          | exact ⟨([[0, d.iss, d.pay]], _, _), ⟨rfl, trivial⟩, ⟨all_3 hso (by omega) (by omega), own_rows (by first | exact wide1 | exact wide2) (by simpa [fr, ints] using hO13_7), hX⟩⟩
                          | exact ⟨([[0, d.taker, d.pay + d.pledge]], _, _), ⟨rfl, trivial⟩, ⟨all_4 hso (by omega) (by omega) (by omega), own_rows (by first | exact wide1 | exact wide2) (by simpa [fr, ints] using hO15_10), hX⟩⟩
                          | exact ⟨([[0, d.iss, d.pay + d.pledge]], _, _), ⟨rfl, trivial⟩, ⟨all_5 hso (by omega) (by omega) (by omega), own_rows (by first | exact wide1 | exact wide2) (by simpa [fr, ints] using hO7_10), hX⟩⟩
                · intro σ
                  clear hX m0_0
                  rintro ⟨l, al, cl⟩ Hm8 ⟨hl0, hR, hX⟩
                  replace hl0 : l = allD d s tax := hl0
                  replace hR : Rows Hm8 al 3 l := hR
                  replace hX : Ext H Hm8 := hX
                  have hnn := all_nn (tax := tax) (s := s) (d := d) ⟨hg2_1, hb2_7, by first | exact .inr hso | exact .inl (by omega)⟩
                  have hll := all_len (tax := tax) (s := s) (d := d)
                  rw [← hl0] at hnn hll
                  show XC _ _ _ (upds σ [(9, .slice al (List.length l) cl)]) _
                  have hX0 := hX
                  replace hX := Ext.refl Hm8
                  refine xc_seq ?_
                  refine xc_region ?_
                  refine xl_pure rfl rfl rfl (pv_assign (v := .slice _ _ _) rfl rfl) ?_
                  refine xl_nil ?_
                  refine xthen_normal ?_
                  refine xc_seq ?_
                  refine xc_seq ?_
                  refine xc_region ?_
                  refine xl_pure rfl rfl rfl (pv_assign (v := .int _ _) rfl rfl) ?_
                  refine xl_nil ?_
                  refine xthen_normal ?_
                  refine xc_block ?_
                  refine xc_loop (τ := Nat × Value) (fun t => [(9, .slice al (List.length l) cl), (10, t.2), (11, .int .i64 (t.1 : Nat))]) (fun t H' => (t.1 ≤ l.length) ∧ ((keep (l.take t.1)).length ≤ t.1) ∧ (Own H' Hm8.size 50 3 t.2 (keep (l.take t.1)).length (fr (keep (l.take t.1)))) ∧ (Ext Hm8 H')) (fun t H' => l.length - t.1) (0, .slice none 0 0) ?_ ?_ ?_
                  · exact ⟨rfl, rfl, rfl, trivial⟩
                  · skip
                    exact ⟨Nat.zero_le _, Nat.le_refl _, Own.nil .., hX⟩
                  · intro σ
                    clear hX
                    rintro ⟨i, vo10⟩ Hl18 ⟨hi, hko, ho, hX⟩
                    replace hi : i ≤ l.length := hi
                    replace hko : (keep (l.take i)).length ≤ i := hko
                    replace ho : Own Hl18 Hm8.size 50 3 vo10 (keep (l.take i)).length (fr (keep (l.take i))) := ho
                    replace hX : Ext Hm8 Hl18 := hX
                    obtain ⟨va10, vc10, rfl⟩ := ho.val
                    show XC _ _ _ (upds σ [(9, .slice al (List.length l) cl), (10, .slice va10 (keep (l.take i)).length vc10), (11, .int .i64 (i : Nat))]) _
                    refine xc_seq ?_
                    refine xc_seq ?_
                    refine xc_region ?_
                    refine xl_pure rfl rfl rfl (pv_move (v := .int _ _) rfl rfl) ?_
                    refine xl_pure rfl rfl rfl (pv_move (v := .slice _ _ _) rfl rfl) ?_
                    refine xl_pure rfl rfl rfl (pv_len_l rfl rfl) ?_
                    refine xl_dec rfl rfl rfl (pv_lss rfl rfl rfl) (fun h18_3 => ?_) (fun h18_3 => ?_)
                    · skip
                      refine xl_nil ?_
                      refine xthen_normal ?_
                      refine xc_cond_t rfl ?_
                      refine xc_skip ?_
                      refine xthen_normal ?_
                      refine xc_seq ?_
                      refine xc_block ?_
                      refine xc_seq ?_
                      obtain ⟨ba, off, hae, hsa⟩ := hR.2.resolve_left (by omega)
                      subst hae
                      have hni := hnn i (by omega)
                      refine xc_region ?_
                      refine xl_pure rfl rfl rfl (pv_move (v := .slice _ _ _) rfl rfl) ?_
                      refine xl_pure rfl rfl rfl (pv_move (v := .int _ _) rfl rfl) ?_
                      refine xl_pure rfl rfl rfl (pv_indexAddr_l rfl rfl rfl (by omega)) ?_
                      refine xl_pure rfl rfl rfl (pv_fieldAddr rfl rfl) ?_
                      refine xl_light rfl rfl rfl (lv_load (v := .int _ _) rfl rfl (by exact ld_num (j := 2) (i := i) (RowsAt.ext hsa hX) hR.1 (by omega) (by omega))) ?_
                      refine xl_dec rfl rfl rfl (pv_gtr rfl rfl rfl) (fun h20_5 => ?_) (fun h20_5 => ?_)
                      · skip
                        refine xl_nil ?_
                        refine xthen_normal ?_
                        refine xc_cond_t rfl ?_
                        refine xc_region ?_
                        refine xl_pure rfl rfl rfl (pv_move (v := .slice _ _ _) rfl rfl) ?_
                        refine xl_pure rfl rfl rfl (pv_move (v := .slice _ _ _) rfl rfl) ?_
                        refine xl_pure rfl rfl rfl (pv_move (v := .int _ _) rfl rfl) ?_
                        refine xl_pure rfl rfl rfl (pv_indexAddr_l rfl rfl rfl (by omega)) ?_
                        refine xl_light rfl rfl rfl (lv_load (v := .agg _) rfl rfl (by exact ld_row' (i := i) (RowsAt.ext hsa hX) hR.1 (by omega))) ?_
                        refine xl_heavy rfl rfl rfl (hv_buildSlice (cs := ints (gr l i)) rfl rfl (parts1 (ints_len hR.1 (by omega))) rfl rfl) ?_
                        rintro v21_5 H21_5 ⟨b21_5, rfl, hN21_5⟩
                        have gb21_5 := hX.fresh hN21_5
                        have pm21_5_ho := ho.apartN hN21_5
                        have ho := ho.ext hN21_5.ext
                        have hX := hX.trans hN21_5.ext
                        have m21_5 := hN21_5.blk
                        refine xl_heavy rfl rfl rfl (hv_append rfl rfl ho rfl (m21_5.row) (ints_len hR.1 (by omega)) (by simp [ints, Value.oneCell']) rfl (by decide) (by omega) (by omega) hX.size) ?_
                        rintro v21_6 H21_6 ⟨hO21_6, hG21_6, -, hB21_6⟩
                        have hX := ho.grown hX hG21_6 (Nat.le_refl _)
                        obtain ⟨a21_6, c21_6, rfl⟩ := hO21_6.val
                        refine xl_pure rfl rfl rfl (pv_assign (v := .slice _ _ _) rfl rfl) ?_
                        refine xl_nil ?_
                        refine xblock_normal ?_
                        refine xthen_normal ?_
                        refine xc_region ?_
                        refine xl_pure rfl rfl rfl (pv_move (v := .int _ _) rfl rfl) ?_
                        refine xl_pure rfl rfl rfl (pv_add rfl rfl rfl (fit_i64 (by omega))) ?_
                        refine xl_pure rfl rfl rfl (pv_assign (v := .int _ _) rfl rfl) ?_
                        refine xl_nil ?_
                        refine xthen_normal ?_
                        first
                          | exact ⟨(i + 1, _), ⟨rfl, rfl, rfl, trivial⟩, ⟨by (try simp only); omega, by rw [keep_take (by omega) (decide_eq_false (by omega))]; simp; omega, by rw [keep_take (by omega) (decide_eq_false (by omega))]; simpa [fr_snoc] using hO21_6, hX⟩, by (try simp only); omega⟩
                          | exact ⟨(i + 1, _), ⟨rfl, rfl, rfl, trivial⟩, ⟨by (try simp only); omega, by rw [keep_skip (by omega) (decide_eq_true (by omega))]; omega, by rw [keep_skip (by omega) (decide_eq_true (by omega))]; exact ho, hX⟩, by (try simp only); omega⟩
                      · skip
                        refine xl_nil ?_
                        refine xthen_normal ?_
                        refine xc_cond_f rfl ?_
                        refine xc_skip ?_
                        refine xblock_normal ?_
                        refine xthen_normal ?_
                        refine xc_region ?_
                        refine xl_pure rfl rfl rfl (pv_move (v := .int _ _) rfl rfl) ?_
                        refine xl_pure rfl rfl rfl (pv_add rfl rfl rfl (fit_i64 (by omega))) ?_
                        refine xl_pure rfl rfl rfl (pv_assign (v := .int _ _) rfl rfl) ?_
                        refine xl_nil ?_
                        refine xthen_normal ?_
                        first
                          | exact ⟨(i + 1, _), ⟨rfl, rfl, rfl, trivial⟩, ⟨by (try simp only); omega, by rw [keep_take (by omega) (decide_eq_false (by omega))]; simp; omega, by rw [keep_take (by omega) (decide_eq_false (by omega))]; simpa [fr_snoc] using hO21_6, hX⟩, by (try simp only); omega⟩
                          | exact ⟨(i + 1, _), ⟨rfl, rfl, rfl, trivial⟩, ⟨by (try simp only); omega, by rw [keep_skip (by omega) (decide_eq_true (by omega))]; omega, by rw [keep_skip (by omega) (decide_eq_true (by omega))]; exact ho, hX⟩, by (try simp only); omega⟩
                    · skip
                      refine xl_nil ?_
                      refine xthen_normal ?_
                      refine xc_cond_f rfl ?_
                      refine xc_exit ?_
                      refine xthen_exit ?_
                      refine xthen_exit ?_
                      refine xblock_same ?_
                      refine xthen_normal ?_
                      refine xc_seq ?_
                      refine xc_region ?_
                      refine xl_pure rfl rfl rfl (pv_move (v := .slice _ _ _) rfl rfl) ?_
                      refine xl_pure rfl rfl rfl (pv_assign (v := .slice _ _ _) rfl rfl) ?_
                      refine xl_pure rfl rfl rfl (pv_assign (v := .int _ _) rfl rfl) ?_
                      refine xl_nil ?_
                      refine xthen_normal ?_
                      refine xc_ret ?_
                      refine fin_ret (res2 (v := .slice _ _ _) (x := .int _ _) rfl rfl rfl) ?_
                      have ht : l.take i = l := List.take_of_length_le (by omega)
                      rw [ht] at ho
                      exact ⟨0, keep l, va10, vc10, by rw [ht], sh_ok ⟨hg2_1, hb2_7, by first | exact .inr hso | exact .inl (by omega)⟩ (by first | exact .inl hso | exact .inr hb4_5) hl0, own_rows (keep_wide hR.1) ho, hX0.trans hX⟩
            · skip
              replace hso := hso.1 rfl
              refine xl_pure rfl rfl rfl (pv_not rfl rfl) ?_
              refine xl_pure rfl rfl rfl (pv_move (v := .bool _) rfl rfl) ?_
              refine xl_skip rfl rfl rfl ?_
              refine xl_skip rfl rfl rfl ?_
              refine xl_skip rfl rfl rfl ?_
              refine xl_skip rfl rfl rfl ?_
              refine xl_pure rfl rfl rfl (pv_pick_f (v := .bool _) rfl rfl rfl) ?_
              refine xl_nil ?_
              refine xthen_normal ?_
              refine xc_cond_f rfl ?_
              refine xc_skip ?_
              refine xthen_normal ?_
              refine xc_seq ?_
              have hpy := good_pay hg2_1
              have hpl := good_pledge hg2_1
              refine xc_region ?_
              refine xl_pure rfl rfl rfl (pv_assign (v := .slice _ _ _) rfl rfl) ?_
              refine xl_nil ?_
              refine xthen_normal ?_
              refine xc_cut (τ := List (List Int) × Option Addr × Nat) (fun t => [(9, .slice t.2.1 (List.length t.1) t.2.2)]) (fun t H' => (t.1 = allD d s tax) ∧ (Rows H' t.2.1 3 t.1) ∧ (Ext H H')) ?_ ?_
              · skip
                refine xc_block ?_
                refine xc_seq ?_
                refine xc_region ?_
                refine xl_pure rfl rfl rfl (pv_move (v := .bool _) rfl rfl) ?_
                refine xl_pure rfl rfl rfl (pv_assign (v := .bool _) rfl rfl) ?_
                refine xl_nil ?_
                refine xthen_normal ?_
                refine xc_cond_t rfl ?_
                refine xc_seq ?_
                refine xc_region ?_
                refine xl_pure rfl rfl rfl (pv_move (v := .slice _ _ _) rfl rfl) ?_
                refine xl_pure rfl rfl rfl (pv_fieldAddr rfl rfl) ?_
                refine xl_light rfl rfl rfl (lv_load (v := .int _ _) rfl rfl (ld_blk m0_0 rfl)) ?_
                refine xl_pure rfl rfl rfl (pv_fieldAddr rfl rfl) ?_
                refine xl_light rfl rfl rfl (lv_load (v := .int _ _) rfl rfl (ld_blk m0_0 rfl)) ?_
                refine xl_pure rfl rfl rfl (pv_move (v := .int _ _) rfl rfl) ?_
                refine xl_pure rfl rfl rfl (pv_sub rfl rfl rfl (fit_i64 (by omega))) ?_
                refine xl_pure rfl rfl rfl (pv_build_s (cs := [.int _ _, .int _ _, .int _ _]) rfl rfl rfl) ?_
                refine xl_heavy rfl rfl rfl (hv_buildSlice (cs := [.int _ _, .int _ _, .int _ _]) rfl rfl rfl rfl rfl) ?_
                rintro v9_8 H9_8 ⟨b9_8, rfl, hN9_8⟩
                have gb9_8 := hX.fresh hN9_8
                have nm0_0_9_8 := m0_0.apart hN9_8
                have m0_0 := m0_0.ext hN9_8.ext
                have hX := hX.trans hN9_8.ext
                have m9_8 := hN9_8.blk
                refine xl_heavy rfl rfl rfl (hv_append rfl rfl (Own.nil _ H.size 50 3) rfl (m9_8.row) rfl (by simp [Value.oneCell']) rfl (by decide) (by omega) (by omega) hX.size) ?_
                rintro v9_9 H9_9 ⟨hO9_9, hG9_9, -, hB9_9⟩
                have m0_0 := m0_0.offT (Own.nil _ H.size 50 3) hG9_9 rfl
                have hX := (Own.nil _ H.size 50 3).grown hX hG9_9 (Nat.le_refl _)
                obtain ⟨a9_9, c9_9, rfl⟩ := hO9_9.val
                refine xl_pure rfl rfl rfl (pv_assign (v := .slice _ _ _) rfl rfl) ?_
                refine xl_nil ?_
                refine xthen_normal ?_
                refine xc_region ?_
                refine xl_pure rfl rfl rfl (pv_move (v := .slice _ _ _) rfl rfl) ?_
                refine xl_pure rfl rfl rfl (pv_move (v := .int _ _) rfl rfl) ?_
                refine xl_pure rfl rfl rfl (pv_build_s (cs := [.int _ _, .int _ _, .int _ _]) rfl rfl rfl) ?_
                refine xl_heavy rfl rfl rfl (hv_buildSlice (cs := [.int _ _, .int _ _, .int _ _]) rfl rfl rfl rfl rfl) ?_
                rintro v10_3 H10_3 ⟨b10_3, rfl, hN10_3⟩
                have gb10_3 := hX.fresh hN10_3
                have nm0_0_10_3 := m0_0.apart hN10_3
                have pm10_3_hO9_9 := hO9_9.apartN hN10_3
                have m0_0 := m0_0.ext hN10_3.ext
                have hO9_9 := hO9_9.ext hN10_3.ext
                have hX := hX.trans hN10_3.ext
                have m10_3 := hN10_3.blk
                refine xl_heavy rfl rfl rfl (hv_append rfl rfl hO9_9 rfl (m10_3.row) rfl (by simp [Value.oneCell']) rfl (by decide) (by omega) (by omega) hX.size) ?_
                rintro v10_4 H10_4 ⟨hO10_4, hG10_4, -, hB10_4⟩
                have m0_0 := m0_0.offT hO9_9 hG10_4 rfl
                have hX := hO9_9.grown hX hG10_4 (Nat.le_refl _)
                obtain ⟨a10_4, c10_4, rfl⟩ := hO10_4.val
                refine xl_pure rfl rfl rfl (pv_assign (v := .slice _ _ _) rfl rfl) ?_
                refine xl_nil ?_
                refine xblock_normal ?_
                refine xthen_normal ?_
                first
                  | exact ⟨([[0, d.iss, d.pay - tax], [0, 0, tax]], _, _), ⟨rfl, trivial⟩, ⟨all_1 hso, own_rows (by first | exact wide1 | exact wide2) (by simpa [fr, ints] using hO10_4), hX⟩⟩
                  | exact ⟨([], _, _), ⟨rfl, trivial⟩, ⟨all_2 hso (by omega), ⟨wide0, .inl rfl⟩, hX⟩⟩
                  | exact ⟨([[0, d.iss, d.pay]], _, _), ⟨rfl, trivial⟩, ⟨all_3 hso (by omega) (by omega), own_rows (by first | exact wide1 | exact wide2) (by simpa [fr, ints] using hO13_7), hX⟩⟩
                  | exact ⟨([[0, d.taker, d.pay + d.pledge]], _, _), ⟨rfl, trivial⟩, ⟨all_4 hso (by omega) (by omega) (by omega), own_rows (by first | exact wide1 | exact wide2) (by simpa [fr, ints] using hO15_10), hX⟩⟩
                  | exact ⟨([[0, d.iss, d.pay + d.pledge]], _, _), ⟨rfl, trivial⟩, ⟨all_5 hso (by omega) (by omega) (by omega), own_rows (by first | exact wide1 | exact wide2) (by simpa [fr, ints] using hO7_10), hX⟩⟩
              · intro σ
                clear hX m0_0
                rintro ⟨l, al, cl⟩ Hm8 ⟨hl0, hR, hX⟩
                replace hl0 : l = allD d s tax := hl0
                replace hR : Rows Hm8 al 3 l := hR
                replace hX : Ext H Hm8 := hX
                have hnn := all_nn (tax := tax) (s := s) (d := d) ⟨hg2_1, hb2_7, by first | exact .inr hso | exact .inl (by omega)⟩
                have hll := all_len (tax := tax) (s := s) (d := d)
                rw [← hl0] at hnn hll
                show XC _ _ _ (upds σ [(9, .slice al (List.length l) cl)]) _
                have hX0 := hX
                replace hX := Ext.refl Hm8
                refine xc_seq ?_
                refine xc_region ?_
                refine xl_pure rfl rfl rfl (pv_assign (v := .slice _ _ _) rfl rfl) ?_
                refine xl_nil ?_
                refine xthen_normal ?_
                refine xc_seq ?_
                refine xc_seq ?_
                refine xc_region ?_
                refine xl_pure rfl rfl rfl (pv_assign (v := .int _ _) rfl rfl) ?_
                refine xl_nil ?_
                refine xthen_normal ?_
                refine xc_block ?_
                refine xc_loop (τ := Nat × Value) (fun t => [(9, .slice al (List.length l) cl), (10, t.2), (11, .int .i64 (t.1 : Nat))]) (fun t H' => (t.1 ≤ l.length) ∧ ((keep (l.take t.1)).length ≤ t.1) ∧ (Own H' Hm8.size 50 3 t.2 (keep (l.take t.1)).length (fr (keep (l.take t.1)))) ∧ (Ext Hm8 H')) (fun t H' => l.length - t.1) (0, .slice none 0 0) ?_ ?_ ?_
                · exact ⟨rfl, rfl, rfl, trivial⟩
                · skip
                  exact ⟨Nat.zero_le _, Nat.le_refl _, Own.nil .., hX⟩
                · intro σ
                  clear hX
                  rintro ⟨i, vo10⟩ Hl18 ⟨hi, hko, ho, hX⟩
                  replace hi : i ≤ l.length := hi
                  replace hko : (keep (l.take i)).length ≤ i := hko
                  replace ho : Own Hl18 Hm8.size 50 3 vo10 (keep (l.take i)).length (fr (keep (l.take i))) := ho
                  replace hX : Ext Hm8 Hl18 := hX
                  obtain ⟨va10, vc10, rfl⟩ := ho.val
                  show XC _ _ _ (upds σ [(9, .slice al (List.length l) cl), (10, .slice va10 (keep (l.take i)).length vc10), (11, .int .i64 (i : Nat))]) _
                  refine xc_seq ?_
                  refine xc_seq ?_
                  refine xc_region ?_
                  refine xl_pure rfl rfl rfl (pv_move (v := .int _ _) rfl rfl) ?_
                  refine xl_pure rfl rfl rfl (pv_move (v := .slice _ _ _) rfl rfl) ?_
                  refine xl_pure rfl rfl rfl (pv_len_l rfl rfl) ?_
                  refine xl_dec rfl rfl rfl (pv_lss rfl rfl rfl) (fun h18_3 => ?_) (fun h18_3 => ?_)
                  · skip
                    refine xl_nil ?_
                    refine xthen_normal ?_
                    refine xc_cond_t rfl ?_
                    refine xc_skip ?_
                    refine xthen_normal ?_
                    refine xc_seq ?_
                    refine xc_block ?_
                    refine xc_seq ?_
                    obtain ⟨ba, off, hae, hsa⟩ := hR.2.resolve_left (by omega)
                    subst hae
                    have hni := hnn i (by omega)
                    refine xc_region ?_
                    refine xl_pure rfl rfl rfl (pv_move (v := .slice _ _ _) rfl rfl) ?_
                    refine xl_pure rfl rfl rfl (pv_move (v := .int _ _) rfl rfl) ?_
                    refine xl_pure rfl rfl rfl (pv_indexAddr_l rfl rfl rfl (by omega)) ?_
                    refine xl_pure rfl rfl rfl (pv_fieldAddr rfl rfl) ?_
                    refine xl_light rfl rfl rfl (lv_load (v := .int _ _) rfl rfl (by exact ld_num (j := 2) (i := i) (RowsAt.ext hsa hX) hR.1 (by omega) (by omega))) ?_
                    refine xl_dec rfl rfl rfl (pv_gtr rfl rfl rfl) (fun h20_5 => ?_) (fun h20_5 => ?_)
                    · skip
                      refine xl_nil ?_
                      refine xthen_normal ?_
                      refine xc_cond_t rfl ?_
                      refine xc_region ?_
                      refine xl_pure rfl rfl rfl (pv_move (v := .slice _ _ _) rfl rfl) ?_
                      refine xl_pure rfl rfl rfl (pv_move (v := .slice _ _ _) rfl rfl) ?_
                      refine xl_pure rfl rfl rfl (pv_move (v := .int _ _) rfl rfl) ?_
                      refine xl_pure rfl rfl rfl (pv_indexAddr_l rfl rfl rfl (by omega)) ?_
                      refine xl_light rfl rfl rfl (lv_load (v := .agg _) rfl rfl (by exact ld_row' (i := i) (RowsAt.ext hsa hX) hR.1 (by omega))) ?_
                      refine xl_heavy rfl rfl rfl (hv_buildSlice (cs := ints (gr l i)) rfl rfl (parts1 (ints_len hR.1 (by omega))) rfl rfl) ?_
                      rintro v21_5 H21_5 ⟨b21_5, rfl, hN21_5⟩
                      have gb21_5 := hX.fresh hN21_5
                      have pm21_5_ho := ho.apartN hN21_5
                      have ho := ho.ext hN21_5.ext
                      have hX := hX.trans hN21_5.ext
                      have m21_5 := hN21_5.blk
                      refine xl_heavy rfl rfl rfl (hv_append rfl rfl ho rfl (m21_5.row) (ints_len hR.1 (by omega)) (by simp [ints, Value.oneCell']) rfl (by decide) (by omega) (by omega) hX.size) ?_
                      rintro v21_6 H21_6 ⟨hO21_6, hG21_6, -, hB21_6⟩
                      have hX := ho.grown hX hG21_6 (Nat.le_refl _)
                      obtain ⟨a21_6, c21_6, rfl⟩ := hO21_6.val
                      refine xl_pure rfl rfl rfl (pv_assign (v := .slice _ _ _) rfl rfl) ?_
                      refine xl_nil ?_
                      refine xblock_normal ?_
                      refine xthen_normal ?_
                      refine xc_region ?_
                      refine xl_pure rfl rfl rfl (pv_move (v := .int _ _) rfl rfl) ?_
                      refine xl_pure rfl rfl rfl (pv_add rfl rfl rfl (fit_i64 (by omega))) ?_
                      refine xl_pure rfl rfl rfl (pv_assign (v := .int _ _) rfl rfl) ?_
                      refine xl_nil ?_
                      refine xthen_normal ?_
                      first
                        | exact ⟨(i + 1, _), ⟨rfl, rfl, rfl, trivial⟩, ⟨by (try simp only); omega, by rw [keep_take (by omega) (decide_eq_false (by omega))]; simp; omega, by rw [keep_take (by omega) (decide_eq_false (by omega))]; simpa [fr_snoc] using hO21_6, hX⟩, by (try simp only); omega⟩
                        | exact ⟨(i + 1, _), ⟨rfl, rfl, rfl, trivial⟩, ⟨by (try simp only); omega, by rw [keep_skip (by omega) (decide_eq_true (by omega))]; omega, by rw [keep_skip (by omega) (decide_eq_true (by omega))]; exact ho, hX⟩, by (try simp only); omega⟩
                    · skip
                      refine xl_nil ?_
                      refine xthen_normal ?_
                      refine xc_cond_f rfl ?_
                      refine xc_skip ?_
                      refine xblock_normal ?_
                      refine xthen_normal ?_
                      refine xc_region ?_
                      refine xl_pure rfl rfl rfl (pv_move (v := .int _ _) rfl rfl) ?_
                      refine xl_pure rfl rfl rfl (pv_add rfl rfl rfl (fit_i64 (by omega))) ?_
                      refine xl_pure rfl rfl rfl (pv_assign (v := .int _ _) rfl rfl) ?_
                      refine xl_nil ?_
                      refine xthen_normal ?_
                      first
                        | exact ⟨(i + 1, _), ⟨rfl, rfl, rfl, trivial⟩, ⟨by (try simp only); omega, by rw [keep_take (by omega) (decide_eq_false (by omega))]; simp; omega, by rw [keep_take (by omega) (decide_eq_false (by omega))]; simpa [fr_snoc] using hO21_6, hX⟩, by (try simp only); omega⟩
                        | exact ⟨(i + 1, _), ⟨rfl, rfl, rfl, trivial⟩, ⟨by (try simp only); omega, by rw [keep_skip (by omega) (decide_eq_true (by omega))]; omega, by rw [keep_skip (by omega) (decide_eq_true (by omega))]; exact ho, hX⟩, by (try simp only); omega⟩
                  · skip
                    refine xl_nil ?_
                    refine xthen_normal ?_
                    refine xc_cond_f rfl ?_
                    refine xc_exit ?_
                    refine xthen_exit ?_
                    refine xthen_exit ?_
                    refine xblock_same ?_
                    refine xthen_normal ?_
                    refine xc_seq ?_
                    refine xc_region ?_
                    refine xl_pure rfl rfl rfl (pv_move (v := .slice _ _ _) rfl rfl) ?_
                    refine xl_pure rfl rfl rfl (pv_assign (v := .slice _ _ _) rfl rfl) ?_
                    refine xl_pure rfl rfl rfl (pv_assign (v := .int _ _) rfl rfl) ?_
                    refine xl_nil ?_
                    refine xthen_normal ?_
                    refine xc_ret ?_
                    refine fin_ret (res2 (v := .slice _ _ _) (x := .int _ _) rfl rfl rfl) ?_
                    have ht : l.take i = l := List.take_of_length_le (by omega)
                    rw [ht] at ho
                    exact ⟨0, keep l, va10, vc10, by rw [ht], sh_ok ⟨hg2_1, hb2_7, by first | exact .inr hso | exact .inl (by omega)⟩ (by first | exact .inl hso | exact .inr hb4_5) hl0, own_rows (keep_wide hR.1) ho, hX0.trans hX⟩
          · skip
            refine xl_pure rfl rfl rfl (pv_move (v := .bool _) rfl rfl) ?_
            refine xl_pure rfl rfl rfl (pv_move (v := .bool _) rfl rfl) ?_
            cases so
            · skip
              replace hso := mt hso.2 (by decide)
              refine xl_pure rfl rfl rfl (pv_not rfl rfl) ?_
              refine xl_pure rfl rfl rfl (pv_pick_t (v := .bool _) rfl rfl rfl) ?_
              refine xl_pure rfl rfl rfl (pv_pick_f (v := .bool _) rfl rfl rfl) ?_
              refine xl_nil ?_
              refine xthen_normal ?_
              refine xc_cond_t rfl ?_
              refine xc_seq ?_
              refine xc_region ?_
              refine xl_pure rfl rfl rfl (pv_assign (v := .slice _ _ _) rfl rfl) ?_
              refine xl_pure rfl rfl rfl (pv_assign (v := .int _ _) rfl rfl) ?_
              refine xl_nil ?_
              refine xthen_normal ?_
              refine xc_ret ?_
              refine xthen_ret ?_
              refine fin_ret (res2 (v := .slice _ _ _) (x := .int _ _) rfl rfl rfl) ?_
              refine ⟨1, [], none, 0, rfl, sh_bad (fun h => ?_), ⟨wide0, .inl rfl⟩, hX⟩
              first
                | exact hg2_1 h.1
                | exact hb2_7 h.2.1
                | exact hso (h.2.2.resolve_left (by omega))
            · skip
              replace hso := hso.1 rfl
              refine xl_pure rfl rfl rfl (pv_not rfl rfl) ?_
              refine xl_pure rfl rfl rfl (pv_pick_t (v := .bool _) rfl rfl rfl) ?_
              refine xl_pure rfl rfl rfl (pv_pick_f (v := .bool _) rfl rfl rfl) ?_
              refine xl_nil ?_
              refine xthen_normal ?_
              refine xc_cond_f rfl ?_
              refine xc_skip ?_
              refine xthen_normal ?_
              refine xc_seq ?_
              refine xc_seq ?_
              refine xc_region ?_
              refine xl_pure rfl rfl rfl (pv_move (v := .bool _) rfl rfl) ?_
              refine xl_pure rfl rfl rfl (pv_not rfl rfl) ?_
              refine xl_pure rfl rfl rfl (pv_move (v := .bool _) rfl rfl) ?_
              refine xl_skip rfl rfl rfl ?_
              refine xl_skip rfl rfl rfl ?_
              refine xl_skip rfl rfl rfl ?_
              refine xl_skip rfl rfl rfl ?_
              refine xl_pure rfl rfl rfl (pv_pick_f (v := .bool _) rfl rfl rfl) ?_
              refine xl_nil ?_
              refine xthen_normal ?_
              refine xc_cond_f rfl ?_
              refine xc_skip ?_
              refine xthen_normal ?_
              refine xc_seq ?_
              have hpy := good_pay hg2_1
              have hpl := good_pledge hg2_1
              refine xc_region ?_
              refine xl_pure rfl rfl rfl (pv_assign (v := .slice _ _ _) rfl rfl) ?_
              refine xl_nil ?_
              refine xthen_normal ?_
              refine xc_cut (τ := List (List Int) × Option Addr × Nat) (fun t => [(9, .slice t.2.1 (List.length t.1) t.2.2)]) (fun t H' => (t.1 = allD d s tax) ∧ (Rows H' t.2.1 3 t.1) ∧ (Ext H H')) ?_ ?_
              · skip
                refine xc_block ?_
                refine xc_seq ?_
                refine xc_region ?_
                refine xl_pure rfl rfl rfl (pv_move (v := .bool _) rfl rfl) ?_
                refine xl_pure rfl rfl rfl (pv_assign (v := .bool _) rfl rfl) ?_
                refine xl_nil ?_
                refine xthen_normal ?_
                refine xc_cond_t rfl ?_
                refine xc_seq ?_
                refine xc_region ?_
                refine xl_pure rfl rfl rfl (pv_move (v := .slice _ _ _) rfl rfl) ?_
                refine xl_pure rfl rfl rfl (pv_fieldAddr rfl rfl) ?_
                refine xl_light rfl rfl rfl (lv_load (v := .int _ _) rfl rfl (ld_blk m0_0 rfl)) ?_
                refine xl_pure rfl rfl rfl (pv_fieldAddr rfl rfl) ?_
                refine xl_light rfl rfl rfl (lv_load (v := .int _ _) rfl rfl (ld_blk m0_0 rfl)) ?_
                refine xl_pure rfl rfl rfl (pv_move (v := .int _ _) rfl rfl) ?_
                refine xl_pure rfl rfl rfl (pv_sub rfl rfl rfl (fit_i64 (by omega))) ?_
                refine xl_pure rfl rfl rfl (pv_build_s (cs := [.int _ _, .int _ _, .int _ _]) rfl rfl rfl) ?_
                refine xl_heavy rfl rfl rfl (hv_buildSlice (cs := [.int _ _, .int _ _, .int _ _]) rfl rfl rfl rfl rfl) ?_
                rintro v9_8 H9_8 ⟨b9_8, rfl, hN9_8⟩
                have gb9_8 := hX.fresh hN9_8
                have nm0_0_9_8 := m0_0.apart hN9_8
                have m0_0 := m0_0.ext hN9_8.ext
                have hX := hX.trans hN9_8.ext
                have m9_8 := hN9_8.blk
                refine xl_heavy rfl rfl rfl (hv_append rfl rfl (Own.nil _ H.size 50 3) rfl (m9_8.row) rfl (by simp [Value.oneCell']) rfl (by decide) (by omega) (by omega) hX.size) ?_
                rintro v9_9 H9_9 ⟨hO9_9, hG9_9, -, hB9_9⟩
                have m0_0 := m0_0.offT (Own.nil _ H.size 50 3) hG9_9 rfl
                have hX := (Own.nil _ H.size 50 3).grown hX hG9_9 (Nat.le_refl _)
                obtain ⟨a9_9, c9_9, rfl⟩ := hO9_9.val
                refine xl_pure rfl rfl rfl (pv_assign (v := .slice _ _ _) rfl rfl) ?_
                refine xl_nil ?_
                refine xthen_normal ?_
                refine xc_region ?_
                refine xl_pure rfl rfl rfl (pv_move (v := .slice _ _ _) rfl rfl) ?_
                refine xl_pure rfl rfl rfl (pv_move (v := .int _ _) rfl rfl) ?_
                refine xl_pure rfl rfl rfl (pv_build_s (cs := [.int _ _, .int _ _, .int _ _]) rfl rfl rfl) ?_
                refine xl_heavy rfl rfl rfl (hv_buildSlice (cs := [.int _ _, .int _ _, .int _ _]) rfl rfl rfl rfl rfl) ?_
                rintro v10_3 H10_3 ⟨b10_3, rfl, hN10_3⟩
                have gb10_3 := hX.fresh hN10_3
                have nm0_0_10_3 := m0_0.apart hN10_3
                have pm10_3_hO9_9 := hO9_9.apartN hN10_3
                have m0_0 := m0_0.ext hN10_3.ext
                have hO9_9 := hO9_9.ext hN10_3.ext
                have hX := hX.trans hN10_3.ext
                have m10_3 := hN10_3.blk
                refine xl_heavy rfl rfl rfl (hv_append rfl rfl hO9_9 rfl (m10_3.row) rfl (by simp [Value.oneCell']) rfl (by decide) (by omega) (by omega) hX.size) ?_
                rintro v10_4 H10_4 ⟨hO10_4, hG10_4, -, hB10_4⟩
                have m0_0 := m0_0.offT hO9_9 hG10_4 rfl
                have hX := hO9_9.grown hX hG10_4 (Nat.le_refl _)
                obtain ⟨a10_4, c10_4, rfl⟩ := hO10_4.val
                refine xl_pure rfl rfl rfl (pv_assign (v := .slice _ _ _) rfl rfl) ?_
                refine xl_nil ?_
                refine xblock_normal ?_
                refine xthen_normal ?_
                first
                  | exact ⟨([[0, d.iss, d.pay - tax], [0, 0, tax]], _, _), ⟨rfl, trivial⟩, ⟨all_1 hso, own_rows (by first | exact wide1 | exact wide2) (by simpa [fr, ints] using hO10_4), hX⟩⟩
                  | exact ⟨([], _, _), ⟨rfl, trivial⟩, ⟨all_2 hso (by omega), ⟨wide0, .inl rfl⟩, hX⟩⟩
                  | exact ⟨([[0, d.iss, d.pay]], _, _), ⟨rfl, trivial⟩, ⟨all_3 hso (by omega) (by omega), own_rows (by first | exact wide1 | exact wide2) (by simpa [fr, ints] using hO13_7), hX⟩⟩
                  | exact ⟨([[0, d.taker, d.pay + d.pledge]], _, _), ⟨rfl, trivial⟩, ⟨all_4 hso (by omega) (by omega) (by omega), own_rows (by first | exact wide1 | exact wide2) (by simpa [fr, ints] using hO15_10), hX⟩⟩
                  | exact ⟨([[0, d.iss, d.pay + d.pledge]], _, _), ⟨rfl, trivial⟩, ⟨all_5 hso (by omega) (by omega) (by omega), own_rows (by first | exact wide1 | exact wide2) (by simpa [fr, ints] using hO7_10), hX⟩⟩
              · intro σ
                clear hX m0_0
                rintro ⟨l, al, cl⟩ Hm8 ⟨hl0, hR, hX⟩
                replace hl0 : l = allD d s tax := hl0
                replace hR : Rows Hm8 al 3 l := hR
                replace hX : Ext H Hm8 := hX
                have hnn := all_nn (tax := tax) (s := s) (d := d) ⟨hg2_1, hb2_7, by first | exact .inr hso | exact .inl (by omega)⟩
                have hll := all_len (tax := tax) (s := s) (d := d)
                rw [← hl0] at hnn hll
                show XC _ _ _ (upds σ [(9, .slice al (List.length l) cl)]) _
                have hX0 := hX
                replace hX := Ext.refl Hm8
                refine xc_seq ?_
                refine xc_region ?_
                refine xl_pure rfl rfl rfl (pv_assign (v := .slice _ _ _) rfl rfl) ?_
                refine xl_nil ?_
                refine xthen_normal ?_
                refine xc_seq ?_
                refine xc_seq ?_
                refine xc_region ?_
                refine xl_pure rfl rfl rfl (pv_assign (v := .int _ _) rfl rfl) ?_
                refine xl_nil ?_
                refine xthen_normal ?_
                refine xc_block ?_
                refine xc_loop (τ := Nat × Value) (fun t => [(9, .slice al (List.length l) cl), (10, t.2), (11, .int .i64 (t.1 : Nat))]) (fun t H' => (t.1 ≤ l.length) ∧ ((keep (l.take t.1)).length ≤ t.1) ∧ (Own H' Hm8.size 50 3 t.2 (keep (l.take t.1)).length (fr (keep (l.take t.1)))) ∧ (Ext Hm8 H')) (fun t H' => l.length - t.1) (0, .slice none 0 0) ?_ ?_ ?_
                · exact ⟨rfl, rfl, rfl, trivial⟩
                · skip
                  exact ⟨Nat.zero_le _, Nat.le_refl _, Own.nil .., hX⟩
                · intro σ
                  clear hX
                  rintro ⟨i, vo10⟩ Hl18 ⟨hi, hko, ho, hX⟩
                  replace hi : i ≤ l.length := hi
                  replace hko : (keep (l.take i)).length ≤ i := hko
                  replace ho : Own Hl18 Hm8.size 50 3 vo10 (keep (l.take i)).length (fr (keep (l.take i))) := ho
                  replace hX : Ext Hm8 Hl18 := hX
                  obtain ⟨va10, vc10, rfl⟩ := ho.val
                  show XC _ _ _ (upds σ [(9, .slice al (List.length l) cl), (10, .slice va10 (keep (l.take i)).length vc10), (11, .int .i64 (i : Nat))]) _
                  refine xc_seq ?_
                  refine xc_seq ?_
                  refine xc_region ?_
                  refine xl_pure rfl rfl rfl (pv_move (v := .int _ _) rfl rfl) ?_
                  refine xl_pure rfl rfl rfl (pv_move (v := .slice _ _ _) rfl rfl) ?_
                  refine xl_pure rfl rfl rfl (pv_len_l rfl rfl) ?_
                  refine xl_dec rfl rfl rfl (pv_lss rfl rfl rfl) (fun h18_3 => ?_) (fun h18_3 => ?_)
                  · skip
                    refine xl_nil ?_
                    refine xthen_normal ?_
                    refine xc_cond_t rfl ?_
                    refine xc_skip ?_
                    refine xthen_normal ?_
                    refine xc_seq ?_
                    refine xc_block ?_
                    refine xc_seq ?_
                    obtain ⟨ba, off, hae, hsa⟩ := hR.2.resolve_left (by omega)
                    subst hae
                    have hni := hnn i (by omega)
                    refine xc_region ?_
                    refine xl_pure rfl rfl rfl (pv_move (v := .slice _ _ _) rfl rfl) ?_
                    refine xl_pure rfl rfl rfl (pv_move (v := .int _ _) rfl rfl) ?_
                    refine xl_pure rfl rfl rfl (pv_indexAddr_l rfl rfl rfl (by omega)) ?_
                    refine xl_pure rfl rfl rfl (pv_fieldAddr rfl rfl) ?_
                    refine xl_light rfl rfl rfl (lv_load (v := .int _ _) rfl rfl (by exact ld_num (j := 2) (i := i) (RowsAt.ext hsa hX) hR.1 (by omega) (by omega))) ?_
                    refine xl_dec rfl rfl rfl (pv_gtr rfl rfl rfl) (fun h20_5 => ?_) (fun h20_5 => ?_)
                    · skip
                      refine xl_nil ?_
                      refine xthen_normal ?_
                      refine xc_cond_t rfl ?_
                      refine xc_region ?_
                      refine xl_pure rfl rfl rfl (pv_move (v := .slice _ _ _) rfl rfl) ?_
                      refine xl_pure rfl rfl rfl (pv_move (v := .slice _ _ _) rfl rfl) ?_
                      refine xl_pure rfl rfl rfl (pv_move (v := .int _ _) rfl rfl) ?_
                      refine xl_pure rfl rfl rfl (pv_indexAddr_l rfl rfl rfl (by omega)) ?_
                      refine xl_light rfl rfl rfl (lv_load (v := .agg _) rfl rfl (by exact ld_row' (i := i) (RowsAt.ext hsa hX) hR.1 (by omega))) ?_
                      refine xl_heavy rfl rfl rfl (hv_buildSlice (cs := ints (gr l i)) rfl rfl (parts1 (ints_len hR.1 (by omega))) rfl rfl) ?_
                      rintro v21_5 H21_5 ⟨b21_5, rfl, hN21_5⟩
                      have gb21_5 := hX.fresh hN21_5
                      have pm21_5_ho := ho.apartN hN21_5
                      have ho := ho.ext hN21_5.ext
                      have hX := hX.trans hN21_5.ext
                      have m21_5 := hN21_5.blk
                      refine xl_heavy rfl rfl rfl (hv_append rfl rfl ho rfl (m21_5.row) (ints_len hR.1 (by omega)) (by simp [ints, Value.oneCell']) rfl (by decide) (by omega) (by omega) hX.size) ?_
                      rintro v21_6 H21_6 ⟨hO21_6, hG21_6, -, hB21_6⟩
                      have hX := ho.grown hX hG21_6 (Nat.le_refl _)
                      obtain ⟨a21_6, c21_6, rfl⟩ := hO21_6.val
                      refine xl_pure rfl rfl rfl (pv_assign (v := .slice _ _ _) rfl rfl) ?_
                      refine xl_nil ?_
                      refine xblock_normal ?_
                      refine xthen_normal ?_
                      refine xc_region ?_
                      refine xl_pure rfl rfl rfl (pv_move (v := .int _ _) rfl rfl) ?_
                      refine xl_pure rfl rfl rfl (pv_add rfl rfl rfl (fit_i64 (by omega))) ?_
                      refine xl_pure rfl rfl rfl (pv_assign (v := .int _ _) rfl rfl) ?_
                      refine xl_nil ?_
                      refine xthen_normal ?_
                      first
                        | exact ⟨(i + 1, _), ⟨rfl, rfl, rfl, trivial⟩, ⟨by (try simp only); omega, by rw [keep_take (by omega) (decide_eq_false (by omega))]; simp; omega, by rw [keep_take (by omega) (decide_eq_false (by omega))]; simpa [fr_snoc] using hO21_6, hX⟩, by (try simp only); omega⟩
                        | exact ⟨(i + 1, _), ⟨rfl, rfl, rfl, trivial⟩, ⟨by (try simp only); omega, by rw [keep_skip (by omega) (decide_eq_true (by omega))]; omega, by rw [keep_skip (by omega) (decide_eq_true (by omega))]; exact ho, hX⟩, by (try simp only); omega⟩
                    · skip
                      refine xl_nil ?_
                      refine xthen_normal ?_
                      refine xc_cond_f rfl ?_
                      refine xc_skip ?_
                      refine xblock_normal ?_
                      refine xthen_normal ?_
                      refine xc_region ?_
                      refine xl_pure rfl rfl rfl (pv_move (v := .int _ _) rfl rfl) ?_
                      refine xl_pure rfl rfl rfl (pv_add rfl rfl rfl (fit_i64 (by omega))) ?_
                      refine xl_pure rfl rfl rfl (pv_assign (v := .int _ _) rfl rfl) ?_
                      refine xl_nil ?_
                      refine xthen_normal ?_
                      first
                        | exact ⟨(i + 1, _), ⟨rfl, rfl, rfl, trivial⟩, ⟨by (try simp only); omega, by rw [keep_take (by omega) (decide_eq_false (by omega))]; simp; omega, by rw [keep_take (by omega) (decide_eq_false (by omega))]; simpa [fr_snoc] using hO21_6, hX⟩, by (try simp only); omega⟩
                        | exact ⟨(i + 1, _), ⟨rfl, rfl, rfl, trivial⟩, ⟨by (try simp only); omega, by rw [keep_skip (by omega) (decide_eq_true (by omega))]; omega, by rw [keep_skip (by omega) (decide_eq_true (by omega))]; exact ho, hX⟩, by (try simp only); omega⟩
                  · skip
                    refine xl_nil ?_
                    refine xthen_normal ?_
                    refine xc_cond_f rfl ?_
                    refine xc_exit ?_
                    refine xthen_exit ?_
                    refine xthen_exit ?_
                    refine xblock_same ?_
                    refine xthen_normal ?_
                    refine xc_seq ?_
                    refine xc_region ?_
                    refine xl_pure rfl rfl rfl (pv_move (v := .slice _ _ _) rfl rfl) ?_
                    refine xl_pure rfl rfl rfl (pv_assign (v := .slice _ _ _) rfl rfl) ?_
                    refine xl_pure rfl rfl rfl (pv_assign (v := .int _ _) rfl rfl) ?_
                    refine xl_nil ?_
                    refine xthen_normal ?_
                    refine xc_ret ?_
                    refine fin_ret (res2 (v := .slice _ _ _) (x := .int _ _) rfl rfl rfl) ?_
                    have ht : l.take i = l := List.take_of_length_le (by omega)
                    rw [ht] at ho
                    exact ⟨0, keep l, va10, vc10, by rw [ht], sh_ok ⟨hg2_1, hb2_7, by first | exact .inr hso | exact .inl (by omega)⟩ (by first | exact .inl hso | exact .inr hb4_5) hl0, own_rows (keep_wide hR.1) ho, hX0.trans hX⟩
      · exact absurd (by decide) h2_2
    · skip
      refine xl_ndec rfl rfl rfl (pv_neq rfl rfl rfl) (fun h2_2 => ?_) (fun h2_2 => ?_)
      · exact absurd h2_2 (by decide)
      · skip
        refine xl_pure rfl rfl rfl (pv_move (v := .bool _) rfl rfl) ?_
        refine xl_skip rfl rfl rfl ?_
        refine xl_skip rfl rfl rfl ?_
        refine xl_skip rfl rfl rfl ?_
        refine xl_skip rfl rfl rfl ?_
        refine xl_skip rfl rfl rfl ?_
        refine xl_pure rfl rfl rfl (pv_pick_t (v := .bool _) rfl rfl rfl) ?_
        refine xl_pure rfl rfl rfl (pv_move (v := .bool _) rfl rfl) ?_
        refine xl_skip rfl rfl rfl ?_
        refine xl_skip rfl rfl rfl ?_
        refine xl_skip rfl rfl rfl ?_
        refine xl_skip rfl rfl rfl ?_
        refine xl_skip rfl rfl rfl ?_
        refine xl_skip rfl rfl rfl ?_
        refine xl_pure rfl rfl rfl (pv_pick_t (v := .bool _) rfl rfl rfl) ?_
        refine xl_nil ?_
        refine xthen_normal ?_
        refine xc_cond_t rfl ?_
        refine xc_seq ?_
        refine xc_region ?_
        refine xl_pure rfl rfl rfl (pv_assign (v := .slice _ _ _) rfl rfl) ?_
        refine xl_pure rfl rfl rfl (pv_assign (v := .int _ _) rfl rfl) ?_
        refine xl_nil ?_
        refine xthen_normal ?_
        refine xc_ret ?_
        refine xthen_ret ?_
        refine fin_ret (res2 (v := .slice _ _ _) (x := .int _ _) rfl rfl rfl) ?_
        refine ⟨1, [], none, 0, rfl, sh_bad (fun h => ?_), ⟨wide0, .inl rfl⟩, hX⟩
        first
          | exact hg2_1 h.1
          | exact hb2_7 h.2.1
          | exact hso (h.2.2.resolve_left (by omega))
end Go.XG
