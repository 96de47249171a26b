/-
  Walks of the seat's functions over the logic XG: each function, what it computes. Printed by a program out of wip/walks.py.
-/
import Derived.Test.YthobcnpdognbfaaI
import Derived.Test.YthobcnpdognbfaaM
import Derived.Test.YthobcnpdognbfaaWa
import Derived.Test.YthobcnpdognbfaaWb
import Derived.Test.YthobcnpdognbfaaWc
import Derived.Test.YthobcnpdognbfaaWd
import Derived.Test.YthobcnpdognbfaaWe
import Derived.Test.YthobcnpdognbfaaWf
import Derived.Test.YthobcnpdognbfaaWg
import Derived.Test.YthobcnpdognbfaaWh
namespace Go.XG
open Go.Proofs
set_option maxRecDepth 4000
set_option maxHeartbeats 4000000
theorem c3 {O : Outer} {H : Heap} {aA : Option Addr} {cA : Nat} {A : List (List Int)} (hA : Rows H aA 4 A) :
    FnC Try.prog 3 #[.slice aA A.length cA] O H (fun v H' => v = .bool true ∧ Ext H H') := by
  refine fn_enter (A := [.slice aA A.length cA]) Try.func3 rfl rfl ?_
  have hX := Ext.refl H
  refine xc_seq ?_
  refine xc_region ?_
  refine xl_pure rfl rfl rfl (pv_assign (v := .bool _) rfl rfl) ?_
  refine xl_nil ?_
  refine xthen_normal ?_
  refine xc_seq ?_
  refine xc_seq ?_
  refine xc_region ?_
  refine xl_pure rfl rfl rfl (pv_move (v := .slice _ _ _) rfl rfl) ?_
  refine xl_pure rfl rfl rfl (pv_len_l rfl rfl) ?_
  refine xl_dec rfl rfl rfl (pv_gtr rfl rfl rfl) (fun h1_2 => ?_) (fun h1_2 => ?_)
  · skip
    refine xl_nil ?_
    refine xthen_normal ?_
    refine xc_cond_t rfl ?_
    refine xc_seq ?_
    refine xc_region ?_
    refine xl_heavy rfl rfl rfl (hv_call (g := 6) rfl rfl (c6) rfl) ?_
    rintro v2_0 H2_0 ⟨rfl, hE2_0⟩
    have hX := hX.trans hE2_0
    refine xl_pure rfl rfl rfl (pv_assign (v := .bool _) rfl rfl) ?_
    refine xl_nil ?_
    refine xthen_normal ?_
    refine xc_ret ?_
    refine xthen_ret ?_
    refine fin_ret (res1 (v := .bool _) rfl rfl) ?_
    exact ⟨rfl, hX⟩
  · skip
    refine xl_nil ?_
    refine xthen_normal ?_
    refine xc_cond_f rfl ?_
    refine xc_skip ?_
    refine xthen_normal ?_
    refine xc_seq ?_
    refine xc_region ?_
    refine xl_pure rfl rfl rfl (pv_build_s (cs := [.slice _ _ _]) rfl rfl rfl) ?_
    refine xl_heavy rfl rfl rfl (hv_box rfl rfl) ?_
    rintro v3_1 H3_1 ⟨b3_1, rfl, hN3_1⟩
    have gb3_1 := hX.fresh hN3_1
    have hX := hX.trans hN3_1.ext
    have m3_1 := hN3_1.blk
    refine xl_pure rfl rfl rfl (pv_assign (v := .pointer _) rfl rfl) ?_
    refine xl_nil ?_
    refine xthen_normal ?_
    refine xc_seq ?_
    have hg0 : GAt _ b3_1 H.size [] := ⟨none, 0, [], m3_1, Own.nil _ _ _ _, Mems.nil⟩
    refine xc_region ?_
    refine xl_pure rfl rfl rfl (pv_move (v := .pointer _) rfl rfl) ?_
    refine xl_heavy rfl rfl rfl (hv_call (g := 7) rfl rfl (gCloneG hg0 gok_nil) rfl) ?_
    rintro v4_1 H4_1 ⟨b4_1, rfl, hc4_1, hF4_1, hE4_1⟩
    have hgb : Fresh H b3_1 := gb3_1
    have hne : b4_1 ≠ b3_1 := fun e => by have := hF4_1.le; have := m3_1.lt; omega
    have hX := hX.trans hE4_1
    have hg := hg0.ext hE4_1
    obtain ⟨ac, cc, hsc, m4_1, hOc, hMc⟩ := hc4_1
    refine xl_pure rfl rfl rfl (pv_assign (v := .pointer _) rfl rfl) ?_
    refine xl_nil ?_
    refine xthen_normal ?_
    refine xc_seq ?_
    refine xc_seq ?_
    refine xc_region ?_
    refine xl_pure rfl rfl rfl (pv_assign (v := .int _ _) rfl rfl) ?_
    refine xl_nil ?_
    refine xthen_normal ?_
    refine xc_block ?_
    refine xc_loop (τ := Nat) (fun t => [(0, .slice aA A.length cA), (3, .pointer (some ⟨b3_1, 0, none⟩)), (4, .pointer (some ⟨b4_1, 0, none⟩)), (5, .int .i64 (t : Nat))]) (fun t H' => (t ≤ A.length) ∧ (GAt H' b3_1 H.size (ast [] A t)) ∧ (Blk H' b4_1 [.slice ac 0 cc] 27) ∧ (Ext H H')) (fun t H' => A.length - t) 0 ?_ ?_ ?_
    · exact ⟨rfl, rfl, rfl, rfl, trivial⟩
    · skip
      exact ⟨Nat.zero_le _, hg, m4_1, hX⟩
    · intro σ
      clear hX m4_1
      rintro i Hl6 ⟨hi, hg, m4_1, hX⟩
      replace hi : i ≤ A.length := hi
      replace hg : GAt Hl6 b3_1 H.size (ast [] A i) := hg
      replace m4_1 : Blk Hl6 b4_1 [.slice ac 0 cc] 27 := m4_1
      replace hX : Ext H Hl6 := hX
      have hgi := gok_ast (A := A) gok_nil i
      have hgn := gok_act (r := gr A i) hgi
      obtain ⟨bl, ofl, hAe⟩ := (hA.ext hX).at'
      show XC _ _ _ (upds σ [(0, .slice aA A.length cA), (3, .pointer (some ⟨b3_1, 0, none⟩)), (4, .pointer (some ⟨b4_1, 0, none⟩)), (5, .int .i64 (i : Nat))]) _
      refine xc_seq ?_
      refine xc_seq ?_
      refine xc_region ?_
      refine xl_pure rfl rfl rfl (pv_move (v := .int _ _) rfl rfl) ?_
      refine xl_pure rfl rfl rfl (pv_move (v := .slice _ _ _) rfl rfl) ?_
      refine xl_pure rfl rfl rfl (pv_len_l rfl rfl) ?_
      refine xl_dec rfl rfl rfl (pv_lss rfl rfl rfl) (fun h6_3 => ?_) (fun h6_3 => ?_)
      · skip
        refine xl_nil ?_
        refine xthen_normal ?_
        refine xc_cond_t rfl ?_
        refine xc_skip ?_
        refine xthen_normal ?_
        refine xc_seq ?_
        refine xc_block ?_
        refine xc_seq ?_
        refine xc_region ?_
        refine xl_pure rfl rfl rfl (pv_move (v := .pointer _) rfl rfl) ?_
        refine xl_heavy rfl rfl rfl (hv_call (g := 8) rfl rfl (gListG hg hgi) rfl) ?_
        rintro v8_1 H8_1 ⟨a8_1, c8_1, rfl, hD8_1, hE8_1⟩
        have m4_1 := m4_1.ext hE8_1
        have hX := hX.trans hE8_1
        have hg := hg.ext hE8_1
        have hDw := hD8_1 H.size
        refine xl_pure rfl rfl rfl (pv_assign (v := .slice _ _ _) rfl rfl) ?_
        refine xl_nil ?_
        refine xthen_normal ?_
        refine xc_seq ?_
        obtain ⟨bl, ofl, hAe⟩ := (hA.ext hX).at'
        refine xc_region ?_
        refine xl_pure rfl rfl rfl (pv_move (v := .pointer _) rfl rfl) ?_
        refine xl_pure rfl rfl rfl (pv_move (v := .slice _ _ _) rfl rfl) ?_
        refine xl_pure rfl rfl rfl (pv_move (v := .int _ _) rfl rfl) ?_
        refine xl_pure rfl rfl rfl (pv_indexAddr_l rfl (sl_eq (hAe (by omega)).1) rfl (by omega)) ?_
        refine xl_light rfl rfl rfl (lv_load (v := .agg _) rfl rfl (by exact ld_row' (hAe (by omega)).2 hA.1 (by omega))) ?_
        refine xl_heavy rfl rfl rfl (hv_call (g := 9) rfl rfl (c9 hg hgi hX.size (gr A i) (hA.1.get (by omega))) rfl) ?_
        rintro v9_5 H9_5 ⟨rfl, hg9_5, hK9_5⟩
        have hDw := hDw.keep hK9_5 hg.blk gb3_1.le
        have m4_1 := blk_gf m4_1 hne hK9_5
        have hX := hX.keep hK9_5 (gf_ge gb3_1.le)
        have hg := hg9_5
        refine xl_pure rfl rfl rfl (pv_move (v := .tuple _) rfl rfl) ?_
        refine xl_pure rfl rfl rfl (pv_extract (v := .int _ _) rfl rfl rfl) ?_
        refine xl_pure rfl rfl rfl (pv_extract (v := .int _ _) rfl rfl rfl) ?_
        refine xl_pure rfl rfl rfl (pv_assign (v := .int _ _) rfl rfl) ?_
        refine xl_pure rfl rfl rfl (pv_assign (v := .int _ _) rfl rfl) ?_
        refine xl_nil ?_
        refine xthen_normal ?_
        refine xc_seq ?_
        refine xc_region ?_
        refine xl_pure rfl rfl rfl (pv_move (v := .pointer _) rfl rfl) ?_
        refine xl_heavy rfl rfl rfl (hv_call (g := 8) rfl rfl (gListG hg hgn) rfl) ?_
        rintro v10_1 H10_1 ⟨a10_1, c10_1, rfl, hD10_1, hE10_1⟩
        have m4_1 := m4_1.ext hE10_1
        have hX := hX.trans hE10_1
        have hg := hg.ext hE10_1
        have hDw := hDw.ext hE10_1
        have hDn0 := hD10_1 H.size
        refine xl_pure rfl rfl rfl (pv_assign (v := .slice _ _ _) rfl rfl) ?_
        refine xl_nil ?_
        refine xthen_normal ?_
        refine xc_seq ?_
        refine xc_seq ?_
        refine xc_region ?_
        refine xl_pure rfl rfl rfl (pv_move (v := .int _ _) rfl rfl) ?_
        refine xl_ndec rfl rfl rfl (pv_neq rfl rfl rfl) (fun h11_1 => ?_) (fun h11_1 => ?_)
        · skip
          refine xl_pure rfl rfl rfl (pv_move (v := .bool _) rfl rfl) ?_
          refine xl_skip rfl rfl rfl ?_
          refine xl_skip rfl rfl rfl ?_
          refine xl_skip rfl rfl rfl ?_
          refine xl_skip rfl rfl rfl ?_
          refine xl_pure rfl rfl rfl (pv_pick_f (v := .bool _) rfl rfl rfl) ?_
          refine xl_nil ?_
          refine xthen_normal ?_
          refine xc_cond_f rfl ?_
          refine xc_skip ?_
          refine xthen_normal ?_
          refine xc_seq ?_
          refine xc_region ?_
          refine xl_pure rfl rfl rfl (pv_assign (v := .int _ _) rfl rfl) ?_
          refine xl_nil ?_
          refine xthen_normal ?_
          refine xc_block ?_
          refine xc_loop (τ := Nat) (fun t => [(0, .slice aA A.length cA), (3, .pointer (some ⟨b3_1, 0, none⟩)), (4, .pointer (some ⟨b4_1, 0, none⟩)), (5, .int .i64 (i : Nat)), (9, .slice a10_1 (actX (ast [] A i) (gr A i)).length c10_1), (10, .int .i64 (t : Nat))]) (fun t H' => (t ≤ (actX (ast [] A i) (gr A i)).length) ∧ (GAt H' b3_1 H.size (actX (ast [] A i) (gr A i))) ∧ (Blk H' b4_1 [.slice ac 0 cc] 27) ∧ (DK H' H.size a10_1 (tg (actX (ast [] A i) (gr A i)))) ∧ (Ext H H')) (fun t H' => (actX (ast [] A i) (gr A i)).length - t) 0 ?_ ?_ ?_
          · exact ⟨rfl, rfl, rfl, rfl, rfl, rfl, trivial⟩
          · skip
            exact ⟨Nat.zero_le _, hg, m4_1, hDn0, hX⟩
          · intro σ
            clear hX m4_1
            rintro k Hl14 ⟨hk, hg, m4_1, hDn, hX⟩
            replace hk : k ≤ (actX (ast [] A i) (gr A i)).length := hk
            replace hg : GAt Hl14 b3_1 H.size (actX (ast [] A i) (gr A i)) := hg
            replace m4_1 : Blk Hl14 b4_1 [.slice ac 0 cc] 27 := m4_1
            replace hDn : DK Hl14 H.size a10_1 (tg (actX (ast [] A i) (gr A i))) := hDn
            replace hX : Ext H Hl14 := hX
            have hg4 := hgn.len
            obtain ⟨dg, do_, hde⟩ := hDn.at'
            show XC _ _ _ (upds σ [(0, .slice aA A.length cA), (3, .pointer (some ⟨b3_1, 0, none⟩)), (4, .pointer (some ⟨b4_1, 0, none⟩)), (5, .int .i64 (i : Nat)), (9, .slice a10_1 (actX (ast [] A i) (gr A i)).length c10_1), (10, .int .i64 (k : Nat))]) _
            refine xc_seq ?_
            refine xc_seq ?_
            refine xc_region ?_
            refine xl_pure rfl rfl rfl (pv_move (v := .int _ _) rfl rfl) ?_
            refine xl_pure rfl rfl rfl (pv_move (v := .slice _ _ _) rfl rfl) ?_
            refine xl_pure rfl rfl rfl (pv_len_l rfl rfl) ?_
            refine xl_dec rfl rfl rfl (pv_lss rfl rfl rfl) (fun h14_3 => ?_) (fun h14_3 => ?_)
            · skip
              refine xl_nil ?_
              refine xthen_normal ?_
              refine xc_cond_t rfl ?_
              refine xc_skip ?_
              refine xthen_normal ?_
              refine xc_seq ?_
              refine xc_block ?_
              refine xc_seq ?_
              refine xc_region ?_
              refine xl_pure rfl rfl rfl (pv_assign (v := .bool _) rfl rfl) ?_
              refine xl_nil ?_
              refine xthen_normal ?_
              refine xc_seq ?_
              refine xc_seq ?_
              refine xc_region ?_
              refine xl_pure rfl rfl rfl (pv_assign (v := .int _ _) rfl rfl) ?_
              refine xl_nil ?_
              refine xthen_normal ?_
              refine xc_block ?_
              refine xc_loop (τ := Nat × Bool) (fun t => [(0, .slice aA A.length cA), (3, .pointer (some ⟨b3_1, 0, none⟩)), (4, .pointer (some ⟨b4_1, 0, none⟩)), (5, .int .i64 (i : Nat)), (9, .slice a10_1 (actX (ast [] A i) (gr A i)).length c10_1), (10, .int .i64 (k : Nat)), (11, .bool t.2), (12, .int .i64 (t.1 : Nat))]) (fun t H' => (t.1 ≤ (gM (actX (ast [] A i) (gr A i)) k).length) ∧ (t.2 = true ↔ ∃ j, j < t.1 ∧ mo (gr (gM (actX (ast [] A i) (gr A i)) k) j) % 2 = 1) ∧ (GAt H' b3_1 H.size (actX (ast [] A i) (gr A i))) ∧ (Blk H' b4_1 [.slice ac 0 cc] 27) ∧ (DK H' H.size a10_1 (tg (actX (ast [] A i) (gr A i)))) ∧ (Ext H H')) (fun t H' => (gM (actX (ast [] A i) (gr A i)) k).length - t.1) (0, false) ?_ ?_ ?_
              · exact ⟨rfl, rfl, rfl, rfl, rfl, rfl, rfl, rfl, trivial⟩
              · skip
                exact ⟨Nat.zero_le _, ⟨fun h => (by cases h), fun ⟨j, h, _⟩ => absurd h (by omega)⟩, hg, m4_1, hDn, hX⟩
              · intro σ
                clear hX m4_1
                rintro ⟨m, ld⟩ Hl18 ⟨hm, hld, hg, m4_1, hDn, hX⟩
                replace hm : m ≤ (gM (actX (ast [] A i) (gr A i)) k).length := hm
                replace hld : ld = true ↔ ∃ j, j < m ∧ mo (gr (gM (actX (ast [] A i) (gr A i)) k) j) % 2 = 1 := hld
                replace hg : GAt Hl18 b3_1 H.size (actX (ast [] A i) (gr A i)) := hg
                replace m4_1 : Blk Hl18 b4_1 [.slice ac 0 cc] 27 := m4_1
                replace hDn : DK Hl18 H.size a10_1 (tg (actX (ast [] A i) (gr A i))) := hDn
                replace hX : Ext H Hl18 := hX
                have hl16 := mok_len (hgn.at (show k < (actX (ast [] A i) (gr A i)).length by omega)).1
                obtain ⟨dg, do_, hde⟩ := hDn.at'
                obtain ⟨aj, cj, -, hjr, hl1, hl2⟩ := ld_d (hde (by rw [tg_len]; omega)).2 (show k < (tg (actX (ast [] A i) (gr A i))).length by rw [tg_len]; omega)
                rw [tg_get (by omega)] at hl1 hl2 hjr
                dsimp only at hl1 hl2 hjr
                obtain ⟨bj, oj, hje⟩ := hjr.rows.at'
                show XC _ _ _ (upds σ [(0, .slice aA A.length cA), (3, .pointer (some ⟨b3_1, 0, none⟩)), (4, .pointer (some ⟨b4_1, 0, none⟩)), (5, .int .i64 (i : Nat)), (9, .slice a10_1 (actX (ast [] A i) (gr A i)).length c10_1), (10, .int .i64 (k : Nat)), (11, .bool ld), (12, .int .i64 (m : Nat))]) _
                refine xc_seq ?_
                refine xc_seq ?_
                refine xc_region ?_
                refine xl_pure rfl rfl rfl (pv_move (v := .int _ _) rfl rfl) ?_
                refine xl_pure rfl rfl rfl (pv_move (v := .slice _ _ _) rfl rfl) ?_
                refine xl_pure rfl rfl rfl (pv_move (v := .int _ _) rfl rfl) ?_
                refine xl_pure rfl rfl rfl (pv_indexAddr_l rfl (sl_eq (hde (by rw [tg_len]; omega)).1) rfl (by omega)) ?_
                refine xl_pure rfl rfl rfl (pv_fieldAddr rfl rfl) ?_
                refine xl_light rfl rfl rfl (lv_load (v := .slice _ _ _) rfl rfl (by exact hl2)) ?_
                refine xl_pure rfl rfl rfl (pv_len_l rfl rfl) ?_
                refine xl_dec rfl rfl rfl (pv_lss rfl rfl rfl) (fun h18_7 => ?_) (fun h18_7 => ?_)
                · skip
                  refine xl_nil ?_
                  refine xthen_normal ?_
                  refine xc_cond_t rfl ?_
                  refine xc_skip ?_
                  refine xthen_normal ?_
                  refine xc_seq ?_
                  refine xc_block ?_
                  have hrm := ((hgn.at (show k < (actX (ast [] A i) (gr A i)).length by omega)).1.ok _ (gr_mem (show m < (gM (actX (ast [] A i) (gr A i)) k).length by omega))).2
                  refine xc_region ?_
                  refine xl_pure rfl rfl rfl (pv_move (v := .bool _) rfl rfl) ?_
                  cases ld
                  · skip
                    refine xl_pure rfl rfl rfl (pv_move (v := .bool _) rfl rfl) ?_
                    refine xl_pure rfl rfl rfl (pv_move (v := .slice _ _ _) rfl rfl) ?_
                    refine xl_pure rfl rfl rfl (pv_move (v := .int _ _) rfl rfl) ?_
                    refine xl_pure rfl rfl rfl (pv_indexAddr_l rfl (sl_eq (hde (by rw [tg_len]; omega)).1) rfl (by omega)) ?_
                    refine xl_pure rfl rfl rfl (pv_fieldAddr rfl rfl) ?_
                    refine xl_light rfl rfl rfl (lv_load (v := .slice _ _ _) rfl rfl (by exact hl2)) ?_
                    refine xl_pure rfl rfl rfl (pv_move (v := .int _ _) rfl rfl) ?_
                    refine xl_pure rfl rfl rfl (pv_indexAddr_l rfl (sl_eq (hje (by omega)).1) rfl (by omega)) ?_
                    refine xl_pure rfl rfl rfl (pv_fieldAddr rfl rfl) ?_
                    refine xl_light rfl rfl rfl (lv_load (v := .int _ _) rfl rfl (by exact ld_num (j := 1) (hje (by omega)).2 hjr.1 (by omega) (by decide))) ?_
                    refine xl_pure rfl rfl rfl (pv_and (r := mo (gr (gM (actX (ast [] A i) (gr A i)) k) m) % 2) rfl rfl rfl (and1i hrm.1 (Int.lt_trans hrm.2 (by decide)))) ?_
                    refine xl_dec rfl rfl rfl (pv_eql rfl rfl rfl) (fun h20_12 => ?_) (fun h20_12 => ?_)
                    · skip
                      refine xl_pure rfl rfl rfl (pv_pick_f (v := .bool _) rfl rfl rfl) ?_
                      refine xl_pure rfl rfl rfl (pv_assign (v := .bool _) rfl rfl) ?_
                      refine xl_nil ?_
                      refine xblock_normal ?_
                      refine xthen_normal ?_
                      refine xc_region ?_
                      refine xl_pure rfl rfl rfl (pv_move (v := .int _ _) rfl rfl) ?_
                      refine xl_pure rfl rfl rfl (pv_add rfl rfl rfl (fit_i64 (by omega))) ?_
                      refine xl_pure rfl rfl rfl (pv_assign (v := .int _ _) rfl rfl) ?_
                      refine xl_nil ?_
                      refine xthen_normal ?_
                      first
                        | exact ⟨(m + 1, true), ⟨rfl, rfl, rfl, rfl, rfl, rfl, rfl, rfl, trivial⟩, ⟨by (try simp only); omega, ⟨fun _ => by obtain ⟨j, h1, h2⟩ := hld.1 rfl; exact ⟨j, by omega, h2⟩, fun _ => rfl⟩, hg, m4_1, hDn, hX⟩, by (try simp only); omega⟩
                        | exact ⟨(m + 1, true), ⟨rfl, rfl, rfl, rfl, rfl, rfl, rfl, rfl, trivial⟩, ⟨by (try simp only); omega, ⟨fun _ => ⟨m, by omega, h20_12⟩, fun _ => rfl⟩, hg, m4_1, hDn, hX⟩, by (try simp only); omega⟩
                        | exact ⟨(m + 1, false), ⟨rfl, rfl, rfl, rfl, rfl, rfl, rfl, rfl, trivial⟩, ⟨by (try simp only); omega, ⟨fun h => (by cases h), fun ⟨j, h1, h2⟩ => by rcases Nat.lt_or_ge j m with h3 | h3; exact hld.2 ⟨j, h3, h2⟩; (have h4 : j = m := (by omega)); subst h4; exact absurd h2 h20_12⟩, hg, m4_1, hDn, hX⟩, by (try simp only); omega⟩
                    · skip
                      refine xl_pure rfl rfl rfl (pv_pick_f (v := .bool _) rfl rfl rfl) ?_
                      refine xl_pure rfl rfl rfl (pv_assign (v := .bool _) rfl rfl) ?_
                      refine xl_nil ?_
                      refine xblock_normal ?_
                      refine xthen_normal ?_
                      refine xc_region ?_
                      refine xl_pure rfl rfl rfl (pv_move (v := .int _ _) rfl rfl) ?_
                      refine xl_pure rfl rfl rfl (pv_add rfl rfl rfl (fit_i64 (by omega))) ?_
                      refine xl_pure rfl rfl rfl (pv_assign (v := .int _ _) rfl rfl) ?_
                      refine xl_nil ?_
                      refine xthen_normal ?_
                      first
                        | exact ⟨(m + 1, true), ⟨rfl, rfl, rfl, rfl, rfl, rfl, rfl, rfl, trivial⟩, ⟨by (try simp only); omega, ⟨fun _ => by obtain ⟨j, h1, h2⟩ := hld.1 rfl; exact ⟨j, by omega, h2⟩, fun _ => rfl⟩, hg, m4_1, hDn, hX⟩, by (try simp only); omega⟩
                        | exact ⟨(m + 1, true), ⟨rfl, rfl, rfl, rfl, rfl, rfl, rfl, rfl, trivial⟩, ⟨by (try simp only); omega, ⟨fun _ => ⟨m, by omega, h20_12⟩, fun _ => rfl⟩, hg, m4_1, hDn, hX⟩, by (try simp only); omega⟩
                        | exact ⟨(m + 1, false), ⟨rfl, rfl, rfl, rfl, rfl, rfl, rfl, rfl, trivial⟩, ⟨by (try simp only); omega, ⟨fun h => (by cases h), fun ⟨j, h1, h2⟩ => by rcases Nat.lt_or_ge j m with h3 | h3; exact hld.2 ⟨j, h3, h2⟩; (have h4 : j = m := (by omega)); subst h4; exact absurd h2 h20_12⟩, hg, m4_1, hDn, hX⟩, by (try simp only); omega⟩
                  · skip
                    refine xl_pure rfl rfl rfl (pv_move (v := .bool _) rfl rfl) ?_
                    refine xl_skip rfl rfl rfl ?_
                    refine xl_skip rfl rfl rfl ?_
                    refine xl_skip rfl rfl rfl ?_
                    refine xl_skip rfl rfl rfl ?_
                    refine xl_skip rfl rfl rfl ?_
                    refine xl_skip rfl rfl rfl ?_
                    refine xl_skip rfl rfl rfl ?_
                    refine xl_skip rfl rfl rfl ?_
                    refine xl_skip rfl rfl rfl ?_
                    refine xl_skip rfl rfl rfl ?_
                    refine xl_skip rfl rfl rfl ?_
                    refine xl_pure rfl rfl rfl (pv_pick_t (v := .bool _) rfl rfl rfl) ?_
                    refine xl_pure rfl rfl rfl (pv_assign (v := .bool _) rfl rfl) ?_
                    refine xl_nil ?_
                    refine xblock_normal ?_
                    refine xthen_normal ?_
                    refine xc_region ?_
                    refine xl_pure rfl rfl rfl (pv_move (v := .int _ _) rfl rfl) ?_
                    refine xl_pure rfl rfl rfl (pv_add rfl rfl rfl (fit_i64 (by omega))) ?_
                    refine xl_pure rfl rfl rfl (pv_assign (v := .int _ _) rfl rfl) ?_
                    refine xl_nil ?_
                    refine xthen_normal ?_
                    first
                      | exact ⟨(m + 1, true), ⟨rfl, rfl, rfl, rfl, rfl, rfl, rfl, rfl, trivial⟩, ⟨by (try simp only); omega, ⟨fun _ => by obtain ⟨j, h1, h2⟩ := hld.1 rfl; exact ⟨j, by omega, h2⟩, fun _ => rfl⟩, hg, m4_1, hDn, hX⟩, by (try simp only); omega⟩
                      | exact ⟨(m + 1, true), ⟨rfl, rfl, rfl, rfl, rfl, rfl, rfl, rfl, trivial⟩, ⟨by (try simp only); omega, ⟨fun _ => ⟨m, by omega, h20_12⟩, fun _ => rfl⟩, hg, m4_1, hDn, hX⟩, by (try simp only); omega⟩
                      | exact ⟨(m + 1, false), ⟨rfl, rfl, rfl, rfl, rfl, rfl, rfl, rfl, trivial⟩, ⟨by (try simp only); omega, ⟨fun h => (by cases h), fun ⟨j, h1, h2⟩ => by rcases Nat.lt_or_ge j m with h3 | h3; exact hld.2 ⟨j, h3, h2⟩; (have h4 : j = m := (by omega)); subst h4; exact absurd h2 h20_12⟩, hg, m4_1, hDn, hX⟩, by (try simp only); omega⟩
                · skip
                  refine xl_nil ?_
                  refine xthen_normal ?_
                  refine xc_cond_f rfl ?_
                  refine xc_exit ?_
                  refine xthen_exit ?_
                  refine xthen_exit ?_
                  refine xblock_same ?_
                  refine xthen_normal ?_
                  refine xc_seq ?_
                  obtain rfl : m = (gM (actX (ast [] A i) (gr A i)) k).length := by omega
                  have hldt : ld = true := hld.2 (led_ex (hgn.at (show k < (actX (ast [] A i) (gr A i)).length by omega)).2)
                  refine xc_region ?_
                  refine xl_pure rfl rfl rfl (pv_move (v := .bool _) rfl rfl) ?_
                  cases ld
                  · cases hldt
                  · skip
                    refine xl_pure rfl rfl rfl (pv_not rfl rfl) ?_
                    refine xl_pure rfl rfl rfl (pv_move (v := .bool _) rfl rfl) ?_
                    refine xl_pure rfl rfl rfl (pv_move (v := .slice _ _ _) rfl rfl) ?_
                    refine xl_pure rfl rfl rfl (pv_move (v := .int _ _) rfl rfl) ?_
                    refine xl_pure rfl rfl rfl (pv_indexAddr_l rfl (sl_eq (hde (by rw [tg_len]; omega)).1) rfl (by omega)) ?_
                    refine xl_pure rfl rfl rfl (pv_fieldAddr rfl rfl) ?_
                    refine xl_light rfl rfl rfl (lv_load (v := .int _ _) rfl rfl (by exact hl1)) ?_
                    refine xl_pure rfl rfl rfl (pv_move (v := .int _ _) rfl rfl) ?_
                    refine xl_pure rfl rfl rfl (pv_add rfl rfl rfl (fit_i64 (by omega))) ?_
                    refine xl_ndec rfl rfl rfl (pv_neq rfl rfl rfl) (fun h21_10 => ?_) (fun h21_10 => ?_)
                    · skip
                      refine xl_pure rfl rfl rfl (pv_pick_f (v := .bool _) rfl rfl rfl) ?_
                      refine xl_nil ?_
                      refine xthen_normal ?_
                      refine xc_cond_f rfl ?_
                      refine xc_skip ?_
                      refine xblock_normal ?_
                      refine xthen_normal ?_
                      refine xc_region ?_
                      refine xl_pure rfl rfl rfl (pv_move (v := .int _ _) rfl rfl) ?_
                      refine xl_pure rfl rfl rfl (pv_add rfl rfl rfl (fit_i64 (by omega))) ?_
                      refine xl_pure rfl rfl rfl (pv_assign (v := .int _ _) rfl rfl) ?_
                      refine xl_nil ?_
                      refine xthen_normal ?_
                      exact ⟨k + 1, ⟨rfl, rfl, rfl, rfl, rfl, rfl, trivial⟩, ⟨by (try simp only); omega, hg, m4_1, hDn, hX⟩, by (try simp only); omega⟩
                    · exact absurd rfl h21_10
            · skip
              refine xl_nil ?_
              refine xthen_normal ?_
              refine xc_cond_f rfl ?_
              refine xc_exit ?_
              refine xthen_exit ?_
              refine xthen_exit ?_
              refine xblock_same ?_
              refine xblock_normal ?_
              refine xthen_normal ?_
              refine xc_region ?_
              refine xl_pure rfl rfl rfl (pv_move (v := .int _ _) rfl rfl) ?_
              refine xl_pure rfl rfl rfl (pv_add rfl rfl rfl (fit_i64 (by omega))) ?_
              refine xl_pure rfl rfl rfl (pv_assign (v := .int _ _) rfl rfl) ?_
              refine xl_nil ?_
              refine xthen_normal ?_
              exact ⟨i + 1, ⟨rfl, rfl, rfl, rfl, trivial⟩, ⟨by (try simp only); omega, hg, m4_1, hX⟩, by (try simp only); omega⟩
        · skip
          refine xl_pure rfl rfl rfl (pv_move (v := .bool _) rfl rfl) ?_
          refine xl_pure rfl rfl rfl (pv_move (v := .slice _ _ _) rfl rfl) ?_
          refine xl_pure rfl rfl rfl (pv_move (v := .slice _ _ _) rfl rfl) ?_
          refine xl_heavy rfl rfl rfl (hv_call (g := 10) rfl rfl (rSame (X := (ast [] A i)) (Y := (actX (ast [] A i) (gr A i))) hDw hDn0 (by have := hgi.len; omega) (fun k hk => by have := mok_len (hgi.at hk).1; omega)) rfl) ?_
          rintro v11_5 H11_5 ⟨r11_5, rfl, hb11_5, rfl⟩
          obtain rfl : r11_5 = true := hb11_5.2 (act_stay h11_1).symm
          refine xl_pure rfl rfl rfl (pv_not rfl rfl) ?_
          refine xl_pure rfl rfl rfl (pv_pick_t (v := .bool _) rfl rfl rfl) ?_
          refine xl_nil ?_
          refine xthen_normal ?_
          refine xc_cond_f rfl ?_
          refine xc_skip ?_
          refine xthen_normal ?_
          refine xc_seq ?_
          refine xc_region ?_
          refine xl_pure rfl rfl rfl (pv_assign (v := .int _ _) rfl rfl) ?_
          refine xl_nil ?_
          refine xthen_normal ?_
          refine xc_block ?_
          refine xc_loop (τ := Nat) (fun t => [(0, .slice aA A.length cA), (3, .pointer (some ⟨b3_1, 0, none⟩)), (4, .pointer (some ⟨b4_1, 0, none⟩)), (5, .int .i64 (i : Nat)), (9, .slice a10_1 (actX (ast [] A i) (gr A i)).length c10_1), (10, .int .i64 (t : Nat))]) (fun t H' => (t ≤ (actX (ast [] A i) (gr A i)).length) ∧ (GAt H' b3_1 H.size (actX (ast [] A i) (gr A i))) ∧ (Blk H' b4_1 [.slice ac 0 cc] 27) ∧ (DK H' H.size a10_1 (tg (actX (ast [] A i) (gr A i)))) ∧ (Ext H H')) (fun t H' => (actX (ast [] A i) (gr A i)).length - t) 0 ?_ ?_ ?_
          · exact ⟨rfl, rfl, rfl, rfl, rfl, rfl, trivial⟩
          · skip
            exact ⟨Nat.zero_le _, hg, m4_1, hDn0, hX⟩
          · intro σ
            clear hX m4_1
            rintro k Hl14 ⟨hk, hg, m4_1, hDn, hX⟩
            replace hk : k ≤ (actX (ast [] A i) (gr A i)).length := hk
            replace hg : GAt Hl14 b3_1 H.size (actX (ast [] A i) (gr A i)) := hg
            replace m4_1 : Blk Hl14 b4_1 [.slice ac 0 cc] 27 := m4_1
            replace hDn : DK Hl14 H.size a10_1 (tg (actX (ast [] A i) (gr A i))) := hDn
            replace hX : Ext H Hl14 := hX
            have hg4 := hgn.len
            obtain ⟨dg, do_, hde⟩ := hDn.at'
            show XC _ _ _ (upds σ [(0, .slice aA A.length cA), (3, .pointer (some ⟨b3_1, 0, none⟩)), (4, .pointer (some ⟨b4_1, 0, none⟩)), (5, .int .i64 (i : Nat)), (9, .slice a10_1 (actX (ast [] A i) (gr A i)).length c10_1), (10, .int .i64 (k : Nat))]) _
            refine xc_seq ?_
            refine xc_seq ?_
            refine xc_region ?_
            refine xl_pure rfl rfl rfl (pv_move (v := .int _ _) rfl rfl) ?_
            refine xl_pure rfl rfl rfl (pv_move (v := .slice _ _ _) rfl rfl) ?_
            refine xl_pure rfl rfl rfl (pv_len_l rfl rfl) ?_
            refine xl_dec rfl rfl rfl (pv_lss rfl rfl rfl) (fun h14_3 => ?_) (fun h14_3 => ?_)
            · skip
              refine xl_nil ?_
              refine xthen_normal ?_
              refine xc_cond_t rfl ?_
              refine xc_skip ?_
              refine xthen_normal ?_
              refine xc_seq ?_
              refine xc_block ?_
              refine xc_seq ?_
              refine xc_region ?_
              refine xl_pure rfl rfl rfl (pv_assign (v := .bool _) rfl rfl) ?_
              refine xl_nil ?_
              refine xthen_normal ?_
              refine xc_seq ?_
              refine xc_seq ?_
              refine xc_region ?_
              refine xl_pure rfl rfl rfl (pv_assign (v := .int _ _) rfl rfl) ?_
              refine xl_nil ?_
              refine xthen_normal ?_
              refine xc_block ?_
              refine xc_loop (τ := Nat × Bool) (fun t => [(0, .slice aA A.length cA), (3, .pointer (some ⟨b3_1, 0, none⟩)), (4, .pointer (some ⟨b4_1, 0, none⟩)), (5, .int .i64 (i : Nat)), (9, .slice a10_1 (actX (ast [] A i) (gr A i)).length c10_1), (10, .int .i64 (k : Nat)), (11, .bool t.2), (12, .int .i64 (t.1 : Nat))]) (fun t H' => (t.1 ≤ (gM (actX (ast [] A i) (gr A i)) k).length) ∧ (t.2 = true ↔ ∃ j, j < t.1 ∧ mo (gr (gM (actX (ast [] A i) (gr A i)) k) j) % 2 = 1) ∧ (GAt H' b3_1 H.size (actX (ast [] A i) (gr A i))) ∧ (Blk H' b4_1 [.slice ac 0 cc] 27) ∧ (DK H' H.size a10_1 (tg (actX (ast [] A i) (gr A i)))) ∧ (Ext H H')) (fun t H' => (gM (actX (ast [] A i) (gr A i)) k).length - t.1) (0, false) ?_ ?_ ?_
              · exact ⟨rfl, rfl, rfl, rfl, rfl, rfl, rfl, rfl, trivial⟩
              · skip
                exact ⟨Nat.zero_le _, ⟨fun h => (by cases h), fun ⟨j, h, _⟩ => absurd h (by omega)⟩, hg, m4_1, hDn, hX⟩
              · intro σ
                clear hX m4_1
                rintro ⟨m, ld⟩ Hl18 ⟨hm, hld, hg, m4_1, hDn, hX⟩
                replace hm : m ≤ (gM (actX (ast [] A i) (gr A i)) k).length := hm
                replace hld : ld = true ↔ ∃ j, j < m ∧ mo (gr (gM (actX (ast [] A i) (gr A i)) k) j) % 2 = 1 := hld
                replace hg : GAt Hl18 b3_1 H.size (actX (ast [] A i) (gr A i)) := hg
                replace m4_1 : Blk Hl18 b4_1 [.slice ac 0 cc] 27 := m4_1
                replace hDn : DK Hl18 H.size a10_1 (tg (actX (ast [] A i) (gr A i))) := hDn
                replace hX : Ext H Hl18 := hX
                have hl16 := mok_len (hgn.at (show k < (actX (ast [] A i) (gr A i)).length by omega)).1
                obtain ⟨dg, do_, hde⟩ := hDn.at'
                obtain ⟨aj, cj, -, hjr, hl1, hl2⟩ := ld_d (hde (by rw [tg_len]; omega)).2 (show k < (tg (actX (ast [] A i) (gr A i))).length by rw [tg_len]; omega)
                rw [tg_get (by omega)] at hl1 hl2 hjr
                dsimp only at hl1 hl2 hjr
                obtain ⟨bj, oj, hje⟩ := hjr.rows.at'
                show XC _ _ _ (upds σ [(0, .slice aA A.length cA), (3, .pointer (some ⟨b3_1, 0, none⟩)), (4, .pointer (some ⟨b4_1, 0, none⟩)), (5, .int .i64 (i : Nat)), (9, .slice a10_1 (actX (ast [] A i) (gr A i)).length c10_1), (10, .int .i64 (k : Nat)), (11, .bool ld), (12, .int .i64 (m : Nat))]) _
                refine xc_seq ?_
                refine xc_seq ?_
                refine xc_region ?_
                refine xl_pure rfl rfl rfl (pv_move (v := .int _ _) rfl rfl) ?_
                refine xl_pure rfl rfl rfl (pv_move (v := .slice _ _ _) rfl rfl) ?_
                refine xl_pure rfl rfl rfl (pv_move (v := .int _ _) rfl rfl) ?_
                refine xl_pure rfl rfl rfl (pv_indexAddr_l rfl (sl_eq (hde (by rw [tg_len]; omega)).1) rfl (by omega)) ?_
                refine xl_pure rfl rfl rfl (pv_fieldAddr rfl rfl) ?_
                refine xl_light rfl rfl rfl (lv_load (v := .slice _ _ _) rfl rfl (by exact hl2)) ?_
                refine xl_pure rfl rfl rfl (pv_len_l rfl rfl) ?_
                refine xl_dec rfl rfl rfl (pv_lss rfl rfl rfl) (fun h18_7 => ?_) (fun h18_7 => ?_)
                · skip
                  refine xl_nil ?_
                  refine xthen_normal ?_
                  refine xc_cond_t rfl ?_
                  refine xc_skip ?_
                  refine xthen_normal ?_
                  refine xc_seq ?_
                  refine xc_block ?_
                  have hrm := ((hgn.at (show k < (actX (ast [] A i) (gr A i)).length by omega)).1.ok _ (gr_mem (show m < (gM (actX (ast [] A i) (gr A i)) k).length by omega))).2
                  refine xc_region ?_
                  refine xl_pure rfl rfl rfl (pv_move (v := .bool _) rfl rfl) ?_
                  cases ld
                  · skip
                    refine xl_pure rfl rfl rfl (pv_move (v := .bool _) rfl rfl) ?_
                    refine xl_pure rfl rfl rfl (pv_move (v := .slice _ _ _) rfl rfl) ?_
                    refine xl_pure rfl rfl rfl (pv_move (v := .int _ _) rfl rfl) ?_
                    refine xl_pure rfl rfl rfl (pv_indexAddr_l rfl (sl_eq (hde (by rw [tg_len]; omega)).1) rfl (by omega)) ?_
                    refine xl_pure rfl rfl rfl (pv_fieldAddr rfl rfl) ?_
                    refine xl_light rfl rfl rfl (lv_load (v := .slice _ _ _) rfl rfl (by exact hl2)) ?_
                    refine xl_pure rfl rfl rfl (pv_move (v := .int _ _) rfl rfl) ?_
                    refine xl_pure rfl rfl rfl (pv_indexAddr_l rfl (sl_eq (hje (by omega)).1) rfl (by omega)) ?_
                    refine xl_pure rfl rfl rfl (pv_fieldAddr rfl rfl) ?_
                    refine xl_light rfl rfl rfl (lv_load (v := .int _ _) rfl rfl (by exact ld_num (j := 1) (hje (by omega)).2 hjr.1 (by omega) (by decide))) ?_
                    refine xl_pure rfl rfl rfl (pv_and (r := mo (gr (gM (actX (ast [] A i) (gr A i)) k) m) % 2) rfl rfl rfl (and1i hrm.1 (Int.lt_trans hrm.2 (by decide)))) ?_
                    refine xl_dec rfl rfl rfl (pv_eql rfl rfl rfl) (fun h20_12 => ?_) (fun h20_12 => ?_)
                    · skip
                      refine xl_pure rfl rfl rfl (pv_pick_f (v := .bool _) rfl rfl rfl) ?_
                      refine xl_pure rfl rfl rfl (pv_assign (v := .bool _) rfl rfl) ?_
                      refine xl_nil ?_
                      refine xblock_normal ?_
                      refine xthen_normal ?_
                      refine xc_region ?_
                      refine xl_pure rfl rfl rfl (pv_move (v := .int _ _) rfl rfl) ?_
                      refine xl_pure rfl rfl rfl (pv_add rfl rfl rfl (fit_i64 (by omega))) ?_
                      refine xl_pure rfl rfl rfl (pv_assign (v := .int _ _) rfl rfl) ?_
                      refine xl_nil ?_
                      refine xthen_normal ?_
                      first
                        | exact ⟨(m + 1, true), ⟨rfl, rfl, rfl, rfl, rfl, rfl, rfl, rfl, trivial⟩, ⟨by (try simp only); omega, ⟨fun _ => by obtain ⟨j, h1, h2⟩ := hld.1 rfl; exact ⟨j, by omega, h2⟩, fun _ => rfl⟩, hg, m4_1, hDn, hX⟩, by (try simp only); omega⟩
                        | exact ⟨(m + 1, true), ⟨rfl, rfl, rfl, rfl, rfl, rfl, rfl, rfl, trivial⟩, ⟨by (try simp only); omega, ⟨fun _ => ⟨m, by omega, h20_12⟩, fun _ => rfl⟩, hg, m4_1, hDn, hX⟩, by (try simp only); omega⟩
                        | exact ⟨(m + 1, false), ⟨rfl, rfl, rfl, rfl, rfl, rfl, rfl, rfl, trivial⟩, ⟨by (try simp only); omega, ⟨fun h => (by cases h), fun ⟨j, h1, h2⟩ => by rcases Nat.lt_or_ge j m with h3 | h3; exact hld.2 ⟨j, h3, h2⟩; (have h4 : j = m := (by omega)); subst h4; exact absurd h2 h20_12⟩, hg, m4_1, hDn, hX⟩, by (try simp only); omega⟩
                    · skip
                      refine xl_pure rfl rfl rfl (pv_pick_f (v := .bool _) rfl rfl rfl) ?_
                      refine xl_pure rfl rfl rfl (pv_assign (v := .bool _) rfl rfl) ?_
                      refine xl_nil ?_
                      refine xblock_normal ?_
                      refine xthen_normal ?_
                      refine xc_region ?_
                      refine xl_pure rfl rfl rfl (pv_move (v := .int _ _) rfl rfl) ?_
                      refine xl_pure rfl rfl rfl (pv_add rfl rfl rfl (fit_i64 (by omega))) ?_
                      refine xl_pure rfl rfl rfl (pv_assign (v := .int _ _) rfl rfl) ?_
                      refine xl_nil ?_
                      refine xthen_normal ?_
                      first
                        | exact ⟨(m + 1, true), ⟨rfl, rfl, rfl, rfl, rfl, rfl, rfl, rfl, trivial⟩, ⟨by (try simp only); omega, ⟨fun _ => by obtain ⟨j, h1, h2⟩ := hld.1 rfl; exact ⟨j, by omega, h2⟩, fun _ => rfl⟩, hg, m4_1, hDn, hX⟩, by (try simp only); omega⟩
                        | exact ⟨(m + 1, true), ⟨rfl, rfl, rfl, rfl, rfl, rfl, rfl, rfl, trivial⟩, ⟨by (try simp only); omega, ⟨fun _ => ⟨m, by omega, h20_12⟩, fun _ => rfl⟩, hg, m4_1, hDn, hX⟩, by (try simp only); omega⟩
                        | exact ⟨(m + 1, false), ⟨rfl, rfl, rfl, rfl, rfl, rfl, rfl, rfl, trivial⟩, ⟨by (try simp only); omega, ⟨fun h => (by cases h), fun ⟨j, h1, h2⟩ => by rcases Nat.lt_or_ge j m with h3 | h3; exact hld.2 ⟨j, h3, h2⟩; (have h4 : j = m := (by omega)); subst h4; exact absurd h2 h20_12⟩, hg, m4_1, hDn, hX⟩, by (try simp only); omega⟩
                  · skip
                    refine xl_pure rfl rfl rfl (pv_move (v := .bool _) rfl rfl) ?_
                    refine xl_skip rfl rfl rfl ?_
                    refine xl_skip rfl rfl rfl ?_
                    refine xl_skip rfl rfl rfl ?_
                    refine xl_skip rfl rfl rfl ?_
                    refine xl_skip rfl rfl rfl ?_
                    refine xl_skip rfl rfl rfl ?_
                    refine xl_skip rfl rfl rfl ?_
                    refine xl_skip rfl rfl rfl ?_
                    refine xl_skip rfl rfl rfl ?_
                    refine xl_skip rfl rfl rfl ?_
                    refine xl_skip rfl rfl rfl ?_
                    refine xl_pure rfl rfl rfl (pv_pick_t (v := .bool _) rfl rfl rfl) ?_
                    refine xl_pure rfl rfl rfl (pv_assign (v := .bool _) rfl rfl) ?_
                    refine xl_nil ?_
                    refine xblock_normal ?_
                    refine xthen_normal ?_
                    refine xc_region ?_
                    refine xl_pure rfl rfl rfl (pv_move (v := .int _ _) rfl rfl) ?_
                    refine xl_pure rfl rfl rfl (pv_add rfl rfl rfl (fit_i64 (by omega))) ?_
                    refine xl_pure rfl rfl rfl (pv_assign (v := .int _ _) rfl rfl) ?_
                    refine xl_nil ?_
                    refine xthen_normal ?_
                    first
                      | exact ⟨(m + 1, true), ⟨rfl, rfl, rfl, rfl, rfl, rfl, rfl, rfl, trivial⟩, ⟨by (try simp only); omega, ⟨fun _ => by obtain ⟨j, h1, h2⟩ := hld.1 rfl; exact ⟨j, by omega, h2⟩, fun _ => rfl⟩, hg, m4_1, hDn, hX⟩, by (try simp only); omega⟩
                      | exact ⟨(m + 1, true), ⟨rfl, rfl, rfl, rfl, rfl, rfl, rfl, rfl, trivial⟩, ⟨by (try simp only); omega, ⟨fun _ => ⟨m, by omega, h20_12⟩, fun _ => rfl⟩, hg, m4_1, hDn, hX⟩, by (try simp only); omega⟩
                      | exact ⟨(m + 1, false), ⟨rfl, rfl, rfl, rfl, rfl, rfl, rfl, rfl, trivial⟩, ⟨by (try simp only); omega, ⟨fun h => (by cases h), fun ⟨j, h1, h2⟩ => by rcases Nat.lt_or_ge j m with h3 | h3; exact hld.2 ⟨j, h3, h2⟩; (have h4 : j = m := (by omega)); subst h4; exact absurd h2 h20_12⟩, hg, m4_1, hDn, hX⟩, by (try simp only); omega⟩
                · skip
                  refine xl_nil ?_
                  refine xthen_normal ?_
                  refine xc_cond_f rfl ?_
                  refine xc_exit ?_
                  refine xthen_exit ?_
                  refine xthen_exit ?_
                  refine xblock_same ?_
                  refine xthen_normal ?_
                  refine xc_seq ?_
                  obtain rfl : m = (gM (actX (ast [] A i) (gr A i)) k).length := by omega
                  have hldt : ld = true := hld.2 (led_ex (hgn.at (show k < (actX (ast [] A i) (gr A i)).length by omega)).2)
                  refine xc_region ?_
                  refine xl_pure rfl rfl rfl (pv_move (v := .bool _) rfl rfl) ?_
                  cases ld
                  · cases hldt
                  · skip
                    refine xl_pure rfl rfl rfl (pv_not rfl rfl) ?_
                    refine xl_pure rfl rfl rfl (pv_move (v := .bool _) rfl rfl) ?_
                    refine xl_pure rfl rfl rfl (pv_move (v := .slice _ _ _) rfl rfl) ?_
                    refine xl_pure rfl rfl rfl (pv_move (v := .int _ _) rfl rfl) ?_
                    refine xl_pure rfl rfl rfl (pv_indexAddr_l rfl (sl_eq (hde (by rw [tg_len]; omega)).1) rfl (by omega)) ?_
                    refine xl_pure rfl rfl rfl (pv_fieldAddr rfl rfl) ?_
                    refine xl_light rfl rfl rfl (lv_load (v := .int _ _) rfl rfl (by exact hl1)) ?_
                    refine xl_pure rfl rfl rfl (pv_move (v := .int _ _) rfl rfl) ?_
                    refine xl_pure rfl rfl rfl (pv_add rfl rfl rfl (fit_i64 (by omega))) ?_
                    refine xl_ndec rfl rfl rfl (pv_neq rfl rfl rfl) (fun h21_10 => ?_) (fun h21_10 => ?_)
                    · skip
                      refine xl_pure rfl rfl rfl (pv_pick_f (v := .bool _) rfl rfl rfl) ?_
                      refine xl_nil ?_
                      refine xthen_normal ?_
                      refine xc_cond_f rfl ?_
                      refine xc_skip ?_
                      refine xblock_normal ?_
                      refine xthen_normal ?_
                      refine xc_region ?_
                      refine xl_pure rfl rfl rfl (pv_move (v := .int _ _) rfl rfl) ?_
                      refine xl_pure rfl rfl rfl (pv_add rfl rfl rfl (fit_i64 (by omega))) ?_
                      refine xl_pure rfl rfl rfl (pv_assign (v := .int _ _) rfl rfl) ?_
                      refine xl_nil ?_
                      refine xthen_normal ?_
                      exact ⟨k + 1, ⟨rfl, rfl, rfl, rfl, rfl, rfl, trivial⟩, ⟨by (try simp only); omega, hg, m4_1, hDn, hX⟩, by (try simp only); omega⟩
                    · exact absurd rfl h21_10
            · skip
              refine xl_nil ?_
              refine xthen_normal ?_
              refine xc_cond_f rfl ?_
              refine xc_exit ?_
              refine xthen_exit ?_
              refine xthen_exit ?_
              refine xblock_same ?_
              refine xblock_normal ?_
              refine xthen_normal ?_
              refine xc_region ?_
              refine xl_pure rfl rfl rfl (pv_move (v := .int _ _) rfl rfl) ?_
              refine xl_pure rfl rfl rfl (pv_add rfl rfl rfl (fit_i64 (by omega))) ?_
              refine xl_pure rfl rfl rfl (pv_assign (v := .int _ _) rfl rfl) ?_
              refine xl_nil ?_
              refine xthen_normal ?_
              exact ⟨i + 1, ⟨rfl, rfl, rfl, rfl, trivial⟩, ⟨by (try simp only); omega, hg, m4_1, hX⟩, by (try simp only); omega⟩
      · skip
        refine xl_nil ?_
        refine xthen_normal ?_
        refine xc_cond_f rfl ?_
        refine xc_exit ?_
        refine xthen_exit ?_
        refine xthen_exit ?_
        refine xblock_same ?_
        refine xthen_normal ?_
        refine xc_seq ?_
        refine xc_region ?_
        refine xl_pure rfl rfl rfl (pv_move (v := .pointer _) rfl rfl) ?_
        refine xl_pure rfl rfl rfl (pv_neq_pn rfl rfl rfl) ?_
        refine xl_pure rfl rfl rfl (pv_move (v := .bool _) rfl rfl) ?_
        refine xl_pure rfl rfl rfl (pv_move (v := .pointer _) rfl rfl) ?_
        refine xl_heavy rfl rfl rfl (hv_call (g := 8) rfl rfl (gList0 m4_1) rfl) ?_
        rintro v23_4 H23_4 ⟨rfl, hE23_4⟩
        have m4_1 := m4_1.ext hE23_4
        have hX := hX.trans hE23_4
        refine xl_pure rfl rfl rfl (pv_len_l rfl rfl) ?_
        refine xl_dec rfl rfl rfl (pv_eql rfl rfl rfl) (fun h23_6 => ?_) (fun h23_6 => ?_)
        · skip
          refine xl_pure rfl rfl rfl (pv_pick_t (v := .bool _) rfl rfl rfl) ?_
          refine xl_pure rfl rfl rfl (pv_move (v := .bool _) rfl rfl) ?_
          refine xl_heavy rfl rfl rfl (hv_call (g := 6) rfl rfl (c6) rfl) ?_
          rintro v23_9 H23_9 ⟨rfl, hE23_9⟩
          have m4_1 := m4_1.ext hE23_9
          have hX := hX.trans hE23_9
          refine xl_pure rfl rfl rfl (pv_pick_t (v := .bool _) rfl rfl rfl) ?_
          refine xl_pure rfl rfl rfl (pv_assign (v := .bool _) rfl rfl) ?_
          refine xl_nil ?_
          refine xthen_normal ?_
          refine xc_ret ?_
          refine fin_ret (res1 (v := .bool _) rfl rfl) ?_
          exact ⟨rfl, hX⟩
        · exact absurd rfl h23_6
end Go.XG
