/-
  Walks of the seat's functions over the logic XG: each function, what it computes. Printed by a program out of wip/walks.py.
-/
import Derived.Test.YtnmilooekbcanaaI
import Derived.Test.YtnmilooekbcanaaP
import Derived.Test.YtnmilooekbcanaaL
import Derived.Test.YtnmilooekbcanaaWa
import Derived.Test.YtnmilooekbcanaaWb
import Derived.Test.YtnmilooekbcanaaWc
import Derived.Test.YtnmilooekbcanaaWd
import Derived.Test.YtnmilooekbcanaaWe
import Derived.Test.YtnmilooekbcanaaWf
import Derived.Test.YtnmilooekbcanaaWg
import Derived.Test.YtnmilooekbcanaaWh
namespace Go.XG
open Go.Proofs Go.Pen
theorem c4 {O : Outer} {H : Heap} (s : List UInt8) (a : Option Addr) (c : Nat) (acts : List (Int × Int)) (hacts : acts.length = 0 ∨ ∃ ba off, a = some ⟨ba, off, none⟩ ∧ ActsAt H ba off acts) :
    FnC Try.prog 4 #[.string (bs s), .slice a acts.length c] O H (fun v H' => v = .bool true ∧ Ext H H') := by
  refine fn_enter (A := [.string (bs s), .slice a acts.length c]) Try.func4 rfl rfl ?_
  refine xc_seq ?_
  refine xc_region ?_
  refine xl_pure rfl rfl rfl (pv_assign (v := .bool _) rfl rfl) ?_
  refine xl_nil ?_
  refine xthen_normal ?_
  refine xc_seq ?_
  refine xc_seq ?_
  refine xc_region ?_
  refine xl_pure rfl rfl rfl (pv_move (v := .string (bs _)) rfl rfl) ?_
  refine xl_pure rfl rfl rfl (pv_len_s rfl rfl) ?_
  refine xl_dec rfl rfl rfl (pv_gtr rfl rfl rfl) (fun h1_2 => ?_) (fun h1_2 => ?_)
  · skip
    refine xl_pure rfl rfl rfl (pv_move (v := .bool _) rfl rfl) ?_
    refine xl_skip rfl rfl rfl ?_
    refine xl_skip rfl rfl rfl ?_
    refine xl_skip rfl rfl rfl ?_
    refine xl_pure rfl rfl rfl (pv_pick_t (v := .bool _) rfl rfl rfl) ?_
    refine xl_nil ?_
    refine xthen_normal ?_
    refine xc_cond_t rfl ?_
    refine xc_seq ?_
    refine xc_region ?_
    refine xl_heavy rfl rfl rfl (hv_call (g := 7) rfl rfl (c7) rfl) ?_
    rintro v2_0 H2_0 ⟨rfl, hE2_0⟩
    refine xl_pure rfl rfl rfl (pv_assign (v := .bool _) rfl rfl) ?_
    refine xl_nil ?_
    refine xthen_normal ?_
    refine xc_ret ?_
    refine xthen_ret ?_
    refine fin_ret (res1 (v := .bool _) rfl rfl) ?_
    exact ⟨rfl, hE2_0⟩
  · skip
    refine xl_pure rfl rfl rfl (pv_move (v := .bool _) rfl rfl) ?_
    refine xl_pure rfl rfl rfl (pv_move (v := .slice _ _ _) rfl rfl) ?_
    refine xl_pure rfl rfl rfl (pv_len_l rfl rfl) ?_
    refine xl_dec rfl rfl rfl (pv_gtr rfl rfl rfl) (fun h1_6 => ?_) (fun h1_6 => ?_)
    · skip
      refine xl_pure rfl rfl rfl (pv_pick_f (v := .bool _) rfl rfl rfl) ?_
      refine xl_nil ?_
      refine xthen_normal ?_
      refine xc_cond_t rfl ?_
      refine xc_seq ?_
      refine xc_region ?_
      refine xl_heavy rfl rfl rfl (hv_call (g := 7) rfl rfl (c7) rfl) ?_
      rintro v2_0 H2_0 ⟨rfl, hE2_0⟩
      refine xl_pure rfl rfl rfl (pv_assign (v := .bool _) rfl rfl) ?_
      refine xl_nil ?_
      refine xthen_normal ?_
      refine xc_ret ?_
      refine xthen_ret ?_
      refine fin_ret (res1 (v := .bool _) rfl rfl) ?_
      exact ⟨rfl, hE2_0⟩
    · skip
      refine xl_pure rfl rfl rfl (pv_pick_f (v := .bool _) rfl rfl rfl) ?_
      refine xl_nil ?_
      refine xthen_normal ?_
      refine xc_cond_f rfl ?_
      refine xc_skip ?_
      refine xthen_normal ?_
      refine xc_seq ?_
      refine xc_region ?_
      refine xl_pure rfl rfl rfl (pv_move (v := .string (bs _)) rfl rfl) ?_
      refine xl_heavy rfl rfl rfl (hv_call (g := 14) rfl rfl (c14 _) rfl) ?_
      rintro v3_1 H3_1 ⟨b, rfl, hN⟩
      have hX := hN.ext
      have hge := hN.ge
      have hr := hN.blk
      refine xl_pure rfl rfl rfl (pv_move (v := .string (bs _)) rfl rfl) ?_
      refine xl_pure rfl rfl rfl (pv_build_s (cs := [.string (bs _), .int _ _, .bool _]) rfl rfl rfl) ?_
      refine xl_heavy rfl rfl rfl (hv_box rfl rfl) ?_
      rintro v3_4 H3_4 ⟨b3_4, rfl, hN3_4⟩
      have hr := hr.ext hN3_4.ext
      have hge2 := Nat.le_trans hX.size hN3_4.ge
      have hX := hX.trans hN3_4.ext
      have hq := hN3_4.blk
      have hne := Blk.ne hr hq rfl
      refine xl_pure rfl rfl rfl (pv_assign (v := .pointer _) rfl rfl) ?_
      refine xl_pure rfl rfl rfl (pv_assign (v := .pointer _) rfl rfl) ?_
      refine xl_nil ?_
      refine xthen_normal ?_
      refine xc_seq ?_
      refine xc_seq ?_
      refine xc_region ?_
      refine xl_pure rfl rfl rfl (pv_move (v := .pointer _) rfl rfl) ?_
      refine xl_pure rfl rfl rfl (pv_eql_pn rfl rfl rfl) ?_
      refine xl_nil ?_
      refine xthen_normal ?_
      refine xc_cond_f rfl ?_
      refine xc_skip ?_
      refine xthen_normal ?_
      refine xc_seq ?_
      refine xc_seq ?_
      refine xc_region ?_
      refine xl_pure rfl rfl rfl (pv_assign (v := .int _ _) rfl rfl) ?_
      refine xl_nil ?_
      refine xthen_normal ?_
      refine xc_block ?_
      refine xc_loop (τ := Nat × Nat × Bool) (fun t => [(1, .slice a acts.length c), (5, .pointer (some ⟨b, 0, none⟩)), (6, .pointer (some ⟨b3_4, 0, none⟩)), (7, .int .i64 (t.1 : Nat))]) (fun t H' => t.1 ≤ acts.length ∧ t.2.1 ≤ s.length ∧ Blk H' b [.string (bs (s.drop t.2.1)), .bool t.2.2, .bool true] 41 ∧ Blk H' b3_4 [.string (bs s), .int .i64 (t.2.1 : Nat), .bool t.2.2] 31 ∧ Ext H H') (fun t H' => acts.length - t.1) (0, 0, false) ?_ ?_ ?_
      · exact ⟨rfl, rfl, rfl, rfl, trivial⟩
      · skip
        exact ⟨Nat.zero_le _, Nat.zero_le _, hr, hq, hX⟩
      · intro σ
        clear hr hX hq
        rintro ⟨k, i, bad⟩ Hl ⟨hk, hi, hr, hq, hX⟩
        simp only at hk hi hr hq
        show XC _ _ _ (upds σ [(1, .slice a acts.length c), (5, .pointer (some ⟨b, 0, none⟩)), (6, .pointer (some ⟨b3_4, 0, none⟩)), (7, .int .i64 (k : Nat))]) _
        refine xc_seq ?_
        refine xc_seq ?_
        refine xc_region ?_
        refine xl_pure rfl rfl rfl (pv_move (v := .int _ _) rfl rfl) ?_
        refine xl_pure rfl rfl rfl (pv_move (v := .slice _ _ _) rfl rfl) ?_
        refine xl_pure rfl rfl rfl (pv_len_l rfl rfl) ?_
        refine xl_dec rfl rfl rfl (pv_lss rfl rfl rfl) (fun h7_3 => ?_) (fun h7_3 => ?_)
        · skip
          refine xl_nil ?_
          refine xthen_normal ?_
          refine xc_cond_t rfl ?_
          refine xc_skip ?_
          refine xthen_normal ?_
          refine xc_seq ?_
          refine xc_block ?_
          refine xc_seq ?_
          refine xc_region ?_
          obtain ⟨ba, off, rfl, hact⟩ := hacts.resolve_left (by omega)
          refine xl_pure rfl rfl rfl (pv_assign (v := .bool _) rfl rfl) ?_
          refine xl_nil ?_
          refine xthen_normal ?_
          refine xc_cut (τ := Nat × Bool) (fun t => [(1, .slice (some ⟨ba, off, none⟩) acts.length c), (5, .pointer (some ⟨b, 0, none⟩)), (6, .pointer (some ⟨b3_4, 0, none⟩)), (7, .int .i64 (k : Nat)), (8, .bool true)]) (fun t H' => t.1 ≤ s.length ∧ Blk H' b [.string (bs (s.drop t.1)), .bool t.2, .bool true] 41 ∧ Blk H' b3_4 [.string (bs s), .int .i64 (t.1 : Nat), .bool t.2] 31 ∧ Ext H H') ?_ ?_
          · skip
            refine xc_seq ?_
            refine xc_region ?_
            refine xl_pure rfl rfl rfl (pv_move (v := .slice _ _ _) rfl rfl) ?_
            refine xl_pure rfl rfl rfl (pv_move (v := .int _ _) rfl rfl) ?_
            refine xl_pure rfl rfl rfl (pv_indexAddr_l rfl rfl rfl (by omega)) ?_
            refine xl_pure rfl rfl rfl (pv_fieldAddr rfl rfl) ?_
            refine xl_light rfl rfl rfl (lv_load (v := .int _ _) rfl rfl (by first | exact cellAt_ext (hact k (by omega)).1 hX)) ?_
            refine xl_nil ?_
            refine xthen_normal ?_
            refine xc_block ?_
            refine xc_seq ?_
            refine xc_region ?_
            refine xl_dec rfl rfl rfl (pv_eql rfl rfl rfl) (fun h12_0 => ?_) (fun h12_0 => ?_)
            · skip
              refine xl_pure rfl rfl rfl (pv_assign (v := .bool _) rfl rfl) ?_
              refine xl_nil ?_
              refine xthen_normal ?_
              refine xc_cond_t rfl ?_
              refine xp_start rfl (by repeat (first | with_reducible exact np_fin | with_reducible refine np_then ?_ | with_reducible refine np_block ?_)) (by kernel_rfl) ?_
              refine xp_pure (i := 0) rfl (by kernel_rfl) (by kernel_rfl) rfl rfl rfl (pv_move (v := .pointer _) rfl rfl) ?_
              refine xp_pure (i := 1) rfl (by kernel_rfl) (by kernel_rfl) rfl rfl rfl (pv_move (v := .slice _ _ _) rfl rfl) ?_
              refine xp_pure (i := 2) rfl (by kernel_rfl) (by kernel_rfl) rfl rfl rfl (pv_move (v := .int _ _) rfl rfl) ?_
              refine xp_pure (i := 3) rfl (by kernel_rfl) (by kernel_rfl) rfl rfl rfl (pv_indexAddr_l rfl rfl rfl (by omega)) ?_
              refine xp_pure (i := 4) rfl (by kernel_rfl) (by kernel_rfl) rfl rfl rfl (pv_fieldAddr rfl rfl) ?_
              refine xp_light (i := 5) rfl (by kernel_rfl) (by kernel_rfl) rfl rfl rfl (lv_load (v := .int _ _) rfl rfl (by first | exact cellAt_ext (hact k (by omega)).2 hX)) ?_
              refine xp_pure (i := 7) rfl (by kernel_rfl) (by kernel_rfl) rfl rfl rfl (pv_move (v := .pointer _) rfl rfl) ?_
              refine xp_pure (i := 8) rfl (by kernel_rfl) (by kernel_rfl) rfl rfl rfl (pv_move (v := .slice _ _ _) rfl rfl) ?_
              refine xp_pure (i := 9) rfl (by kernel_rfl) (by kernel_rfl) rfl rfl rfl (pv_move (v := .int _ _) rfl rfl) ?_
              refine xp_pure (i := 10) rfl (by kernel_rfl) (by kernel_rfl) rfl rfl rfl (pv_indexAddr_l rfl rfl rfl (by omega)) ?_
              refine xp_pure (i := 11) rfl (by kernel_rfl) (by kernel_rfl) rfl rfl rfl (pv_fieldAddr rfl rfl) ?_
              refine xp_light (i := 12) rfl (by kernel_rfl) (by kernel_rfl) rfl rfl rfl (lv_load (v := .int _ _) rfl rfl (by first | exact cellAt_ext (hact k (by omega)).2 hX)) ?_
              refine xp_heavy (i := 6) (by kernel_rfl) ?_
              refine xph_val rfl rfl rfl rfl (hv_call (g := 15) rfl rfl (c15 hr (acts.getD k (0, 0)).2) rfl) (pk (by kernel_rfl) (pd (by kernel_rfl) pn)) ?_
              rintro v13_6 H13_6 ⟨n13_6, l13_6, bad13_6, hw13_6, hn13_6, rfl, hU13_6⟩
              have hX := hX.ofBut hU13_6.but hge
              have hq := hq.but hU13_6.but hne.symm
              have hr := hU13_6.blk
              refine ⟨(okc (lv_load (v := .int _ _) rfl rfl (by first | exact cellAt_ext (hact k (by omega)).2 hX)) okn), ?_⟩
              refine xp_heavy (i := 13) (by kernel_rfl) ?_
              refine xph_val rfl rfl rfl rfl (hv_call (g := 16) rfl rfl (c16 hq hi (by omega) (acts.getD k (0, 0)).2) rfl) (pd (by kernel_rfl) pn) ?_
              rintro v13_13 H13_13 ⟨n13_13, i13_13, bad13_13, hw13_13, hi, rfl, hn13_13, hU13_13⟩
              have hX := hX.ofBut hU13_13.but hge2
              have hr := hr.but hU13_13.but hne
              have hq := hU13_13.blk
              have e13_13 := hw13_6.symm.trans hw13_13
              simp only [Prod.mk.injEq] at e13_13
              obtain ⟨rfl, rfl, rfl⟩ := e13_13
              refine ⟨okn, ?_⟩
              refine xp_dec (i := 14) rfl (by kernel_rfl) (by kernel_rfl) rfl rfl rfl (pv_eql rfl rfl rfl) (fun h13_14 => ?_) (fun h13_14 => ?_)
              · skip
                refine xp_pure (i := 15) rfl (by kernel_rfl) (by kernel_rfl) rfl rfl rfl (pv_assign (v := .bool _) rfl rfl) ?_
                refine xp_done (by kernel_rfl) ?_
                refine xblock_normal ?_
                refine xthen_normal ?_
                exact ⟨(_, _), ⟨rfl, rfl, rfl, rfl, rfl, trivial⟩, hi, hr, hq, hX⟩
              · exact absurd rfl h13_14
            · skip
              refine xl_pure rfl rfl rfl (pv_assign (v := .bool _) rfl rfl) ?_
              refine xl_nil ?_
              refine xthen_normal ?_
              refine xc_cond_f rfl ?_
              refine xc_seq ?_
              refine xc_region ?_
              refine xl_dec rfl rfl rfl (pv_eql rfl rfl rfl) (fun h14_0 => ?_) (fun h14_0 => ?_)
              · skip
                refine xl_pure rfl rfl rfl (pv_assign (v := .bool _) rfl rfl) ?_
                refine xl_nil ?_
                refine xthen_normal ?_
                refine xc_cond_t rfl ?_
                refine xc_region ?_
                refine xl_pure rfl rfl rfl (pv_move (v := .pointer _) rfl rfl) ?_
                refine xl_heavy rfl rfl rfl (hv_call (g := 17) rfl rfl (c17 hr) rfl) ?_
                rintro v15_1 H15_1 ⟨n15_1, l15_1, bad15_1, hw15_1, rfl, hU15_1⟩
                have hX := hX.ofBut hU15_1.but hge
                have hq := hq.but hU15_1.but hne.symm
                have hr := hU15_1.blk
                refine xl_pure rfl rfl rfl (pv_move (v := .pointer _) rfl rfl) ?_
                refine xl_heavy rfl rfl rfl (hv_call (g := 18) rfl rfl (c18 hq hi (by omega)) rfl) ?_
                rintro v15_3 H15_3 ⟨n15_3, i15_3, bad15_3, hw15_3, hi, rfl, hU15_3⟩
                have hX := hX.ofBut hU15_3.but hge2
                have hr := hr.but hU15_3.but hne
                have hq := hU15_3.blk
                have e15_3 := hw15_1.symm.trans hw15_3
                simp only [Prod.mk.injEq] at e15_3
                obtain ⟨rfl, rfl, rfl⟩ := e15_3
                refine xl_dec rfl rfl rfl (pv_eql rfl rfl rfl) (fun h15_4 => ?_) (fun h15_4 => ?_)
                · skip
                  refine xl_pure rfl rfl rfl (pv_assign (v := .bool _) rfl rfl) ?_
                  refine xl_nil ?_
                  refine xblock_normal ?_
                  refine xthen_normal ?_
                  exact ⟨(_, _), ⟨rfl, rfl, rfl, rfl, rfl, trivial⟩, hi, hr, hq, hX⟩
                · exact absurd rfl h15_4
              · skip
                refine xl_pure rfl rfl rfl (pv_assign (v := .bool _) rfl rfl) ?_
                refine xl_nil ?_
                refine xthen_normal ?_
                refine xc_cond_f rfl ?_
                refine xc_seq ?_
                refine xc_region ?_
                refine xl_dec rfl rfl rfl (pv_eql rfl rfl rfl) (fun h16_0 => ?_) (fun h16_0 => ?_)
                · skip
                  refine xl_pure rfl rfl rfl (pv_assign (v := .bool _) rfl rfl) ?_
                  refine xl_nil ?_
                  refine xthen_normal ?_
                  refine xc_cond_t rfl ?_
                  refine xp_start rfl (by repeat (first | with_reducible exact np_fin | with_reducible refine np_then ?_ | with_reducible refine np_block ?_)) (by kernel_rfl) ?_
                  refine xp_pure (i := 0) rfl (by kernel_rfl) (by kernel_rfl) rfl rfl rfl (pv_move (v := .pointer _) rfl rfl) ?_
                  refine xp_pure (i := 1) rfl (by kernel_rfl) (by kernel_rfl) rfl rfl rfl (pv_move (v := .slice _ _ _) rfl rfl) ?_
                  refine xp_pure (i := 2) rfl (by kernel_rfl) (by kernel_rfl) rfl rfl rfl (pv_move (v := .int _ _) rfl rfl) ?_
                  refine xp_pure (i := 3) rfl (by kernel_rfl) (by kernel_rfl) rfl rfl rfl (pv_indexAddr_l rfl rfl rfl (by omega)) ?_
                  refine xp_pure (i := 4) rfl (by kernel_rfl) (by kernel_rfl) rfl rfl rfl (pv_fieldAddr rfl rfl) ?_
                  refine xp_light (i := 5) rfl (by kernel_rfl) (by kernel_rfl) rfl rfl rfl (lv_load (v := .int _ _) rfl rfl (by first | exact cellAt_ext (hact k (by omega)).2 hX)) ?_
                  refine xp_pure (i := 7) rfl (by kernel_rfl) (by kernel_rfl) rfl rfl rfl (pv_move (v := .pointer _) rfl rfl) ?_
                  refine xp_pure (i := 8) rfl (by kernel_rfl) (by kernel_rfl) rfl rfl rfl (pv_move (v := .slice _ _ _) rfl rfl) ?_
                  refine xp_pure (i := 9) rfl (by kernel_rfl) (by kernel_rfl) rfl rfl rfl (pv_move (v := .int _ _) rfl rfl) ?_
                  refine xp_pure (i := 10) rfl (by kernel_rfl) (by kernel_rfl) rfl rfl rfl (pv_indexAddr_l rfl rfl rfl (by omega)) ?_
                  refine xp_pure (i := 11) rfl (by kernel_rfl) (by kernel_rfl) rfl rfl rfl (pv_fieldAddr rfl rfl) ?_
                  refine xp_light (i := 12) rfl (by kernel_rfl) (by kernel_rfl) rfl rfl rfl (lv_load (v := .int _ _) rfl rfl (by first | exact cellAt_ext (hact k (by omega)).2 hX)) ?_
                  refine xp_heavy (i := 6) (by kernel_rfl) ?_
                  refine xph_val rfl rfl rfl rfl (hv_call (g := 19) rfl rfl (c19 hr (acts.getD k (0, 0)).2) rfl) (pk (by kernel_rfl) (pd (by kernel_rfl) pn)) ?_
                  rintro v17_6 H17_6 ⟨n17_6, l17_6, bad17_6, hw17_6, rfl, hU17_6⟩
                  have hX := hX.ofBut hU17_6.but hge
                  have hq := hq.but hU17_6.but hne.symm
                  have hr := hU17_6.blk
                  refine ⟨(okc (lv_load (v := .int _ _) rfl rfl (by first | exact cellAt_ext (hact k (by omega)).2 hX)) okn), ?_⟩
                  refine xp_heavy (i := 13) (by kernel_rfl) ?_
                  refine xph_val rfl rfl rfl rfl (hv_call (g := 20) rfl rfl (c20 hq hi (by omega) (acts.getD k (0, 0)).2) rfl) (pd (by kernel_rfl) pn) ?_
                  rintro v17_13 H17_13 ⟨n17_13, i17_13, bad17_13, hw17_13, hi, rfl, hU17_13⟩
                  have hX := hX.ofBut hU17_13.but hge2
                  have hr := hr.but hU17_13.but hne
                  have hq := hU17_13.blk
                  have e17_13 := hw17_6.symm.trans hw17_13
                  simp only [Prod.mk.injEq] at e17_13
                  obtain ⟨rfl, rfl, rfl⟩ := e17_13
                  refine ⟨okn, ?_⟩
                  refine xp_dec (i := 14) rfl (by kernel_rfl) (by kernel_rfl) rfl rfl rfl (pv_eql_s rfl rfl rfl) (fun h17_14 => ?_) (fun h17_14 => ?_)
                  · skip
                    refine xp_pure (i := 15) rfl (by kernel_rfl) (by kernel_rfl) rfl rfl rfl (pv_assign (v := .bool _) rfl rfl) ?_
                    refine xp_done (by kernel_rfl) ?_
                    refine xblock_normal ?_
                    refine xthen_normal ?_
                    exact ⟨(_, _), ⟨rfl, rfl, rfl, rfl, rfl, trivial⟩, hi, hr, hq, hX⟩
                  · exact absurd rfl h17_14
                · skip
                  refine xl_pure rfl rfl rfl (pv_assign (v := .bool _) rfl rfl) ?_
                  refine xl_nil ?_
                  refine xthen_normal ?_
                  refine xc_cond_f rfl ?_
                  refine xp_start rfl (by repeat (first | with_reducible exact np_fin | with_reducible refine np_then ?_ | with_reducible refine np_block ?_)) (by kernel_rfl) ?_
                  refine xp_pure (i := 0) rfl (by kernel_rfl) (by kernel_rfl) rfl rfl rfl (pv_move (v := .pointer _) rfl rfl) ?_
                  refine xp_pure (i := 1) rfl (by kernel_rfl) (by kernel_rfl) rfl rfl rfl (pv_move (v := .slice _ _ _) rfl rfl) ?_
                  refine xp_pure (i := 2) rfl (by kernel_rfl) (by kernel_rfl) rfl rfl rfl (pv_move (v := .int _ _) rfl rfl) ?_
                  refine xp_pure (i := 3) rfl (by kernel_rfl) (by kernel_rfl) rfl rfl rfl (pv_indexAddr_l rfl rfl rfl (by omega)) ?_
                  refine xp_pure (i := 4) rfl (by kernel_rfl) (by kernel_rfl) rfl rfl rfl (pv_fieldAddr rfl rfl) ?_
                  refine xp_light (i := 5) rfl (by kernel_rfl) (by kernel_rfl) rfl rfl rfl (lv_load (v := .int _ _) rfl rfl (by first | exact cellAt_ext (hact k (by omega)).2 hX)) ?_
                  refine xp_pure (i := 7) rfl (by kernel_rfl) (by kernel_rfl) rfl rfl rfl (pv_move (v := .pointer _) rfl rfl) ?_
                  refine xp_pure (i := 8) rfl (by kernel_rfl) (by kernel_rfl) rfl rfl rfl (pv_move (v := .slice _ _ _) rfl rfl) ?_
                  refine xp_pure (i := 9) rfl (by kernel_rfl) (by kernel_rfl) rfl rfl rfl (pv_move (v := .int _ _) rfl rfl) ?_
                  refine xp_pure (i := 10) rfl (by kernel_rfl) (by kernel_rfl) rfl rfl rfl (pv_indexAddr_l rfl rfl rfl (by omega)) ?_
                  refine xp_pure (i := 11) rfl (by kernel_rfl) (by kernel_rfl) rfl rfl rfl (pv_fieldAddr rfl rfl) ?_
                  refine xp_light (i := 12) rfl (by kernel_rfl) (by kernel_rfl) rfl rfl rfl (lv_load (v := .int _ _) rfl rfl (by first | exact cellAt_ext (hact k (by omega)).2 hX)) ?_
                  refine xp_heavy (i := 6) (by kernel_rfl) ?_
                  refine xph_val rfl rfl rfl rfl (hv_call (g := 21) rfl rfl (c21 hr (acts.getD k (0, 0)).2) rfl) (pk (by kernel_rfl) (pd (by kernel_rfl) pn)) ?_
                  rintro v11_6 H11_6 ⟨n11_6, l11_6, bad11_6, hw11_6, hn11_6, rfl, hU11_6⟩
                  have hX := hX.ofBut hU11_6.but hge
                  have hq := hq.but hU11_6.but hne.symm
                  have hr := hU11_6.blk
                  refine ⟨(okc (lv_load (v := .int _ _) rfl rfl (by first | exact cellAt_ext (hact k (by omega)).2 hX)) okn), ?_⟩
                  refine xp_heavy (i := 13) (by kernel_rfl) ?_
                  refine xph_val rfl rfl rfl rfl (hv_call (g := 22) rfl rfl (c22 hq hi (by omega) (acts.getD k (0, 0)).2) rfl) (pd (by kernel_rfl) pn) ?_
                  rintro v11_13 H11_13 ⟨n11_13, i11_13, bad11_13, hw11_13, hi, rfl, hn11_13, hU11_13⟩
                  have hX := hX.ofBut hU11_13.but hge2
                  have hr := hr.but hU11_13.but hne
                  have hq := hU11_13.blk
                  have e11_13 := hw11_6.symm.trans hw11_13
                  simp only [Prod.mk.injEq] at e11_13
                  obtain ⟨rfl, rfl, rfl⟩ := e11_13
                  refine ⟨okn, ?_⟩
                  refine xp_dec (i := 14) rfl (by kernel_rfl) (by kernel_rfl) rfl rfl rfl (pv_eql rfl rfl rfl) (fun h11_14 => ?_) (fun h11_14 => ?_)
                  · skip
                    refine xp_pure (i := 15) rfl (by kernel_rfl) (by kernel_rfl) rfl rfl rfl (pv_assign (v := .bool _) rfl rfl) ?_
                    refine xp_done (by kernel_rfl) ?_
                    refine xblock_normal ?_
                    refine xthen_normal ?_
                    exact ⟨(_, _), ⟨rfl, rfl, rfl, rfl, rfl, trivial⟩, hi, hr, hq, hX⟩
                  · exact absurd rfl h11_14
          · intro σ
            clear hr hX hq hi
            rintro ⟨i, bad⟩ Hm ⟨hi, hr, hq, hX⟩
            simp only at hi hr hq
            show XC _ _ _ (upds σ [(1, .slice (some ⟨ba, off, none⟩) acts.length c), (5, .pointer (some ⟨b, 0, none⟩)), (6, .pointer (some ⟨b3_4, 0, none⟩)), (7, .int .i64 (k : Nat)), (8, .bool true)]) _
            refine xc_seq ?_
            refine xp_start rfl (by repeat (first | with_reducible exact np_fin | with_reducible refine np_then ?_ | with_reducible refine np_block ?_)) (by kernel_rfl) ?_
            refine xp_pure (i := 0) rfl (by kernel_rfl) (by kernel_rfl) rfl rfl rfl (pv_move (v := .bool _) rfl rfl) ?_
            refine xp_pure (i := 1) rfl (by kernel_rfl) (by kernel_rfl) rfl rfl rfl (pv_not rfl rfl) ?_
            refine xp_pure (i := 2) rfl (by kernel_rfl) (by kernel_rfl) rfl rfl rfl (pv_move (v := .bool _) rfl rfl) ?_
            refine xp_pure (i := 3) rfl (by kernel_rfl) (by kernel_rfl) rfl rfl rfl (pv_move (v := .pointer _) rfl rfl) ?_
            refine xp_pure (i := 5) rfl (by kernel_rfl) (by kernel_rfl) rfl rfl rfl (pv_move (v := .pointer _) rfl rfl) ?_
            refine xp_heavy (i := 4) (by kernel_rfl) ?_
            refine xph_val rfl rfl rfl rfl (hv_call (g := 23) rfl rfl (c23 hr) rfl) pn ?_
            rintro v18_4 H18_4 ⟨rfl, rfl⟩
            refine ⟨okn, ?_⟩
            refine xp_heavy (i := 6) (by kernel_rfl) ?_
            refine xph_val rfl rfl rfl rfl (hv_call (g := 24) rfl rfl (c24 hq hi (by omega)) rfl) pn ?_
            rintro v18_6 H18_6 ⟨rfl, rfl⟩
            refine ⟨okn, ?_⟩
            refine xp_ndec (i := 7) rfl (by kernel_rfl) (by kernel_rfl) rfl rfl rfl (pv_neq rfl rfl rfl) (fun h18_7 => ?_) (fun h18_7 => ?_)
            · skip
              refine xp_pure (i := 8) rfl (by kernel_rfl) (by kernel_rfl) rfl rfl rfl (pv_pick_f (v := .bool _) rfl rfl rfl) ?_
              refine xp_pure (i := 9) rfl (by kernel_rfl) (by kernel_rfl) rfl rfl rfl (pv_move (v := .bool _) rfl rfl) ?_
              refine xp_pure (i := 10) rfl (by kernel_rfl) (by kernel_rfl) rfl rfl rfl (pv_move (v := .pointer _) rfl rfl) ?_
              refine xp_pure (i := 12) rfl (by kernel_rfl) (by kernel_rfl) rfl rfl rfl (pv_move (v := .pointer _) rfl rfl) ?_
              refine xp_pure (i := 13) rfl (by kernel_rfl) (by kernel_rfl) rfl rfl rfl (pv_nilCheck_p rfl rfl) ?_
              refine xp_pure (i := 14) rfl (by kernel_rfl) (by kernel_rfl) rfl rfl rfl (pv_fieldAddr rfl rfl) ?_
              refine xp_light (i := 15) rfl (by kernel_rfl) (by kernel_rfl) rfl rfl rfl (lv_load (v := .bool _) rfl rfl (by first | exact ld_blk hq rfl)) ?_
              cases bad
              · skip
                refine xp_heavy (i := 11) (by kernel_rfl) ?_
                refine xph_val rfl rfl rfl rfl (hv_call (g := 25) rfl rfl (c25 hr) rfl) (pk (by kernel_rfl) pn) ?_
                rintro v18_11 H18_11 ⟨rfl, rfl⟩
                refine ⟨(okc (lv_load (v := .bool _) rfl rfl (by first | exact ld_blk hq rfl)) okn), ?_⟩
                refine xp_pure (i := 16) rfl (by kernel_rfl) (by kernel_rfl) rfl rfl rfl (pv_neq_b rfl rfl rfl) ?_
                refine xp_pure (i := 17) rfl (by kernel_rfl) (by kernel_rfl) rfl rfl rfl (pv_pick_f (v := .bool _) rfl rfl rfl) ?_
                refine xp_pure (i := 18) rfl (by kernel_rfl) (by kernel_rfl) rfl rfl rfl (pv_move (v := .bool _) rfl rfl) ?_
                refine xp_pure (i := 19) rfl (by kernel_rfl) (by kernel_rfl) rfl rfl rfl (pv_move (v := .pointer _) rfl rfl) ?_
                refine xp_pure (i := 21) rfl (by kernel_rfl) (by kernel_rfl) rfl rfl rfl (pv_move (v := .pointer _) rfl rfl) ?_
                refine xp_heavy (i := 20) (by kernel_rfl) ?_
                refine xph_val rfl rfl rfl rfl (hv_call (g := 26) rfl rfl (c26 hr) rfl) (pk (by kernel_rfl) pn) ?_
                rintro v18_20 H18_20 ⟨rfl, rfl⟩
                refine ⟨(okc (lv_load (v := .bool _) rfl rfl (by first | exact ld_blk hq rfl)) okn), ?_⟩
                refine xp_heavy (i := 22) (by kernel_rfl) ?_
                refine xph_val rfl rfl rfl rfl (hv_call (g := 27) rfl rfl (c27 hq hi) rfl) (pk (by kernel_rfl) pn) ?_
                rintro v18_22 H18_22 ⟨rfl, rfl⟩
                refine ⟨(okc (lv_load (v := .bool _) rfl rfl (by first | exact ld_blk hq rfl)) okn), ?_⟩
                refine xp_pure (i := 23) rfl (by kernel_rfl) (by kernel_rfl) rfl rfl rfl (pv_neq_same rfl rfl rfl) ?_
                refine xp_pure (i := 24) rfl (by kernel_rfl) (by kernel_rfl) rfl rfl rfl (pv_pick_f (v := .bool _) rfl rfl rfl) ?_
                refine xp_done (by kernel_rfl) ?_
                refine xthen_normal ?_
                refine xc_cond_f rfl ?_
                refine xc_skip ?_
                refine xblock_normal ?_
                refine xthen_normal ?_
                refine xc_region ?_
                refine xl_pure rfl rfl rfl (pv_move (v := .int _ _) rfl rfl) ?_
                refine xl_pure rfl rfl rfl (pv_add rfl rfl rfl (fit_i64 (by omega))) ?_
                refine xl_pure rfl rfl rfl (pv_assign (v := .int _ _) rfl rfl) ?_
                refine xl_nil ?_
                refine xthen_normal ?_
                exact ⟨(k + 1, _, _), ⟨rfl, rfl, rfl, rfl, trivial⟩, ⟨by omega, hi, hr, hq, hX⟩, by simp only; omega⟩
              · skip
                refine xp_heavy (i := 11) (by kernel_rfl) ?_
                refine xph_val rfl rfl rfl rfl (hv_call (g := 25) rfl rfl (c25 hr) rfl) (pk (by kernel_rfl) pn) ?_
                rintro v18_11 H18_11 ⟨rfl, rfl⟩
                refine ⟨(okc (lv_load (v := .bool _) rfl rfl (by first | exact ld_blk hq rfl)) okn), ?_⟩
                refine xp_pure (i := 16) rfl (by kernel_rfl) (by kernel_rfl) rfl rfl rfl (pv_neq_b rfl rfl rfl) ?_
                refine xp_pure (i := 17) rfl (by kernel_rfl) (by kernel_rfl) rfl rfl rfl (pv_pick_f (v := .bool _) rfl rfl rfl) ?_
                refine xp_pure (i := 18) rfl (by kernel_rfl) (by kernel_rfl) rfl rfl rfl (pv_move (v := .bool _) rfl rfl) ?_
                refine xp_pure (i := 19) rfl (by kernel_rfl) (by kernel_rfl) rfl rfl rfl (pv_move (v := .pointer _) rfl rfl) ?_
                refine xp_pure (i := 21) rfl (by kernel_rfl) (by kernel_rfl) rfl rfl rfl (pv_move (v := .pointer _) rfl rfl) ?_
                refine xp_heavy (i := 20) (by kernel_rfl) ?_
                refine xph_val rfl rfl rfl rfl (hv_call (g := 26) rfl rfl (c26 hr) rfl) (pk (by kernel_rfl) pn) ?_
                rintro v18_20 H18_20 ⟨rfl, rfl⟩
                refine ⟨(okc (lv_load (v := .bool _) rfl rfl (by first | exact ld_blk hq rfl)) okn), ?_⟩
                refine xp_heavy (i := 22) (by kernel_rfl) ?_
                refine xph_val rfl rfl rfl rfl (hv_call (g := 27) rfl rfl (c27 hq hi) rfl) (pk (by kernel_rfl) pn) ?_
                rintro v18_22 H18_22 ⟨rfl, rfl⟩
                refine ⟨(okc (lv_load (v := .bool _) rfl rfl (by first | exact ld_blk hq rfl)) okn), ?_⟩
                refine xp_pure (i := 23) rfl (by kernel_rfl) (by kernel_rfl) rfl rfl rfl (pv_neq_same rfl rfl rfl) ?_
                refine xp_pure (i := 24) rfl (by kernel_rfl) (by kernel_rfl) rfl rfl rfl (pv_pick_f (v := .bool _) rfl rfl rfl) ?_
                refine xp_done (by kernel_rfl) ?_
                refine xthen_normal ?_
                refine xc_cond_f rfl ?_
                refine xc_skip ?_
                refine xblock_normal ?_
                refine xthen_normal ?_
                refine xc_region ?_
                refine xl_pure rfl rfl rfl (pv_move (v := .int _ _) rfl rfl) ?_
                refine xl_pure rfl rfl rfl (pv_add rfl rfl rfl (fit_i64 (by omega))) ?_
                refine xl_pure rfl rfl rfl (pv_assign (v := .int _ _) rfl rfl) ?_
                refine xl_nil ?_
                refine xthen_normal ?_
                exact ⟨(k + 1, _, _), ⟨rfl, rfl, rfl, rfl, trivial⟩, ⟨by omega, hi, hr, hq, hX⟩, by simp only; omega⟩
            · exact absurd rfl h18_7
        · skip
          refine xl_nil ?_
          refine xthen_normal ?_
          refine xc_cond_f rfl ?_
          refine xc_exit ?_
          refine xthen_exit ?_
          refine xthen_exit ?_
          refine xblock_same ?_
          refine xthen_normal ?_
          refine xc_seq ?_
          refine xc_region ?_
          refine xl_heavy rfl rfl rfl (hv_call (g := 7) rfl rfl (c7) rfl) ?_
          rintro v20_0 H20_0 ⟨rfl, hE20_0⟩
          refine xl_pure rfl rfl rfl (pv_assign (v := .bool _) rfl rfl) ?_
          refine xl_nil ?_
          refine xthen_normal ?_
          refine xc_ret ?_
          refine fin_ret (res1 (v := .bool _) rfl rfl) ?_
          exact ⟨rfl, hX.trans hE20_0⟩
end Go.XG
