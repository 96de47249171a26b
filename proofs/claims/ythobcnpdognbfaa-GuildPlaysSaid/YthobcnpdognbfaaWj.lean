/-
  Walks of the seat's functions over the logic XG: each function, what it computes. Printed by a program out of wip/walks.py.
-/
import Derived.Test.YthobcnpdognbfaaI
import Derived.Test.YthobcnpdognbfaaM
import Derived.Test.YthobcnpdognbfaaWa
import Derived.Test.YthobcnpdognbfaaWb
import Derived.Test.YthobcnpdognbfaaWc
import Derived.Test.YthobcnpdognbfaaWd
import Derived.Test.YthobcnpdognbfaaWe
import Derived.Test.YthobcnpdognbfaaWf
import Derived.Test.YthobcnpdognbfaaWg
import Derived.Test.YthobcnpdognbfaaWh
import Derived.Test.YthobcnpdognbfaaWi
namespace Go.XG
open Go.Proofs
set_option maxRecDepth 4000
set_option maxHeartbeats 4000000
theorem c5 {O : Outer} {H : Heap} {al : Option Addr} {cl : Nat} {D : List (Int × List (List Int))} (hDh : ∀ B, H.size ≤ B → DK H B al D) (hcl : D.length ≤ cl) {aA : Option Addr} {cA : Nat} {A : List (List Int)} (hA : Rows H aA 4 A) (k0 k1 : Int) :
    FnC Try.prog 5 #[.slice al D.length cl, .slice aA A.length cA, .agg #[.int .i64 k0, .int .i64 k1]] O H (fun v H' => v = .bool true ∧ Ext H H') := by
  refine fn_enter (A := [.slice al D.length cl, .slice aA A.length cA, .agg #[.int .i64 k0, .int .i64 k1]]) Try.func5 rfl rfl ?_
  have hX := Ext.refl H
  refine xc_seq ?_
  refine xc_region ?_
  refine xl_heavy rfl rfl rfl (hv_box rfl rfl) ?_
  rintro v0_0 H0_0 ⟨b0_0, rfl, hN0_0⟩
  have gb0_0 := hX.fresh hN0_0
  have hX := hX.trans hN0_0.ext
  have m0_0 := hN0_0.blk
  refine xl_pure rfl rfl rfl (pv_assign (v := .bool _) rfl rfl) ?_
  refine xl_nil ?_
  refine xthen_normal ?_
  refine xc_seq ?_
  refine xc_seq ?_
  refine xc_region ?_
  refine xl_pure rfl rfl rfl (pv_move (v := .slice _ _ _) rfl rfl) ?_
  refine xl_heavy rfl rfl rfl (hv_call (g := 13) rfl rfl (rFew ((hDh H.size (Nat.le_refl _)).ext hX)) rfl) ?_
  rintro v1_1 H1_1 ⟨r1_1, rfl, hf1_1, rfl⟩
  cases r1_1
  · skip
    refine xl_pure rfl rfl rfl (pv_not rfl rfl) ?_
    refine xl_pure rfl rfl rfl (pv_move (v := .bool _) rfl rfl) ?_
    refine xl_skip rfl rfl rfl ?_
    refine xl_skip rfl rfl rfl ?_
    refine xl_skip rfl rfl rfl ?_
    refine xl_pure rfl rfl rfl (pv_pick_t (v := .bool _) rfl rfl rfl) ?_
    refine xl_nil ?_
    refine xthen_normal ?_
    refine xc_cond_t rfl ?_
    refine xc_seq ?_
    refine xc_region ?_
    refine xl_heavy rfl rfl rfl (hv_call (g := 6) rfl rfl (c6) rfl) ?_
    rintro v2_0 H2_0 ⟨rfl, hE2_0⟩
    have m0_0 := m0_0.ext hE2_0
    have hX := hX.trans hE2_0
    refine xl_pure rfl rfl rfl (pv_assign (v := .bool _) rfl rfl) ?_
    refine xl_nil ?_
    refine xthen_normal ?_
    refine xc_ret ?_
    refine xthen_ret ?_
    refine fin_ret (res1 (v := .bool _) rfl rfl) ?_
    exact ⟨rfl, hX⟩
  · skip
    obtain ⟨hf1, hf2⟩ := hf1_1 rfl
    refine xl_pure rfl rfl rfl (pv_not rfl rfl) ?_
    refine xl_pure rfl rfl rfl (pv_move (v := .bool _) rfl rfl) ?_
    refine xl_pure rfl rfl rfl (pv_move (v := .slice _ _ _) rfl rfl) ?_
    refine xl_pure rfl rfl rfl (pv_len_l rfl rfl) ?_
    refine xl_dec rfl rfl rfl (pv_gtr rfl rfl rfl) (fun h1_6 => ?_) (fun h1_6 => ?_)
    · skip
      refine xl_pure rfl rfl rfl (pv_pick_f (v := .bool _) rfl rfl rfl) ?_
      refine xl_nil ?_
      refine xthen_normal ?_
      refine xc_cond_t rfl ?_
      refine xc_seq ?_
      refine xc_region ?_
      refine xl_heavy rfl rfl rfl (hv_call (g := 6) rfl rfl (c6) rfl) ?_
      rintro v2_0 H2_0 ⟨rfl, hE2_0⟩
      have m0_0 := m0_0.ext hE2_0
      have hX := hX.trans hE2_0
      refine xl_pure rfl rfl rfl (pv_assign (v := .bool _) rfl rfl) ?_
      refine xl_nil ?_
      refine xthen_normal ?_
      refine xc_ret ?_
      refine xthen_ret ?_
      refine fin_ret (res1 (v := .bool _) rfl rfl) ?_
      exact ⟨rfl, hX⟩
    · skip
      refine xl_pure rfl rfl rfl (pv_pick_f (v := .bool _) rfl rfl rfl) ?_
      refine xl_nil ?_
      refine xthen_normal ?_
      refine xc_cond_f rfl ?_
      refine xc_skip ?_
      refine xthen_normal ?_
      refine xc_seq ?_
      have hX0 := hX
      have lt0 := m0_0.lt
      refine xc_region ?_
      refine xl_pure rfl rfl rfl (pv_move (v := .slice _ _ _) rfl rfl) ?_
      refine xl_heavy rfl rfl rfl (hv_call (g := 14) rfl rfl (gLoad ((hDh H.size (Nat.le_refl _)).ext hX) (fun k hk => by have := hf2 k hk; omega) (by omega)) rfl) ?_
      rintro v3_1 H3_1 ⟨e3_1, hl3_1, hv3_1, hE3_1⟩
      have m0_0 := m0_0.ext hE3_1
      have hX := hX.trans hE3_1
      rcases hv3_1 with ⟨rfl, bp, rfl, gbp, hg⟩ | ⟨hne, rfl⟩
      · skip
        have hall : AllG D := by rcases hl3_1 with ⟨_, h⟩ | ⟨h, _⟩; exact h; cases h
        have hgo := hall.ok
        have hlx : (mX D).length = D.length := mX_len
        have hbp : H.size ≤ bp := Nat.le_trans hX0.size gbp.le
        have hBs := hX0.size
        have hbl := gbp.le
        have hnb : b0_0 ≠ bp := fun e => by omega
        refine xl_pure rfl rfl rfl (pv_move (v := .tuple _) rfl rfl) ?_
        refine xl_pure rfl rfl rfl (pv_extract (v := .pointer _) rfl rfl rfl) ?_
        refine xl_pure rfl rfl rfl (pv_extract (v := .int _ _) rfl rfl rfl) ?_
        refine xl_pure rfl rfl rfl (pv_assign (v := .pointer _) rfl rfl) ?_
        refine xl_pure rfl rfl rfl (pv_assign (v := .int _ _) rfl rfl) ?_
        refine xl_nil ?_
        refine xthen_normal ?_
        refine xc_seq ?_
        refine xc_region ?_
        refine xl_pure rfl rfl rfl (pv_move (v := .slice _ _ _) rfl rfl) ?_
        refine xl_heavy rfl rfl rfl (hv_call (g := 15) rfl rfl (rLoad ((hDh H0_0.size hBs).ext hX) (fun k hk => by have := hf2 k hk; omega) (by omega)) rfl) ?_
        rintro v4_1 H4_1 ⟨e4_1, hl4_1, hv4_1, rfl⟩
        have he4_1 := hl4_1.uniq hl3_1
        rw [he4_1] at hv4_1
        obtain rfl : v4_1 = .tuple #[.slice al D.length cl, .int .i64 0] := by rcases hv4_1 with ⟨_, h⟩ | ⟨h, _⟩; exact h; exact absurd rfl h
        refine xl_pure rfl rfl rfl (pv_move (v := .tuple _) rfl rfl) ?_
        refine xl_pure rfl rfl rfl (pv_extract (v := .slice _ _ _) rfl rfl rfl) ?_
        refine xl_pure rfl rfl rfl (pv_extract (v := .int _ _) rfl rfl rfl) ?_
        refine xl_pure rfl rfl rfl (pv_assign (v := .slice _ _ _) rfl rfl) ?_
        refine xl_pure rfl rfl rfl (pv_assign (v := .int _ _) rfl rfl) ?_
        refine xl_nil ?_
        refine xthen_normal ?_
        refine xc_seq ?_
        refine xc_seq ?_
        refine xc_region ?_
        refine xl_pure rfl rfl rfl (pv_move (v := .int _ _) rfl rfl) ?_
        refine xl_pure rfl rfl rfl (pv_move (v := .int _ _) rfl rfl) ?_
        refine xl_ndec rfl rfl rfl (pv_neq rfl rfl rfl) (fun h5_2 => ?_) (fun h5_2 => ?_)
        · skip
          refine xl_pure rfl rfl rfl (pv_move (v := .bool _) rfl rfl) ?_
          refine xl_pure rfl rfl rfl (pv_move (v := .pointer _) rfl rfl) ?_
          refine xl_pure rfl rfl rfl (pv_neq_pn rfl rfl rfl) ?_
          refine xl_pure rfl rfl rfl (pv_move (v := .int _ _) rfl rfl) ?_
          refine xl_dec rfl rfl rfl (pv_eql rfl rfl rfl) (fun h5_7 => ?_) (fun h5_7 => ?_)
          · skip
            refine xl_pure rfl rfl rfl (pv_neq_b rfl rfl rfl) ?_
            refine xl_pure rfl rfl rfl (pv_pick_f (v := .bool _) rfl rfl rfl) ?_
            refine xl_nil ?_
            refine xthen_normal ?_
            refine xc_cond_f rfl ?_
            refine xc_skip ?_
            refine xthen_normal ?_
            refine xc_seq ?_
            refine xc_seq ?_
            refine xc_region ?_
            refine xl_pure rfl rfl rfl (pv_assign (v := .int _ _) rfl rfl) ?_
            refine xl_nil ?_
            refine xthen_normal ?_
            refine xc_block ?_
            refine xc_loop (τ := Nat × Option Addr × Nat) (fun t => [(1, .slice aA A.length cA), (5, .pointer (some ⟨b0_0, 0, none⟩)), (7, .pointer (some ⟨bp, 0, none⟩)), (8, .int .i64 0), (9, .slice t.2.1 (ast (mX D) A t.1).length t.2.2), (11, .int .i64 (t.1 : Nat))]) (fun t H' => (t.1 ≤ A.length) ∧ (GAt H' bp H0_0.size (ast (mX D) A t.1)) ∧ (DK H' H0_0.size t.2.1 (tg (ast (mX D) A t.1))) ∧ ((ast (mX D) A t.1).length ≤ t.2.2) ∧ (Blk H' b0_0 [.int .i64 k0, .int .i64 k1] 48) ∧ (Ext H H')) (fun t H' => A.length - t.1) (0, al, cl) ?_ ?_ ?_
            · exact ⟨rfl, rfl, rfl, rfl, slv hlx.symm, rfl, trivial⟩
            · skip
              exact ⟨Nat.zero_le _, hg, by have h := (hDh H0_0.size hBs).ext hX; rw [hall.tg] at h; exact h, by rw [show ast (mX D) A 0 = mX D from rfl, hlx]; exact hcl, m0_0, hX⟩
            · intro σ
              clear hX m0_0
              rintro ⟨i, a2, c2⟩ Hl8 ⟨hi, hg, hQ, hc2, m0_0, hX⟩
              replace hi : i ≤ A.length := hi
              replace hg : GAt Hl8 bp H0_0.size (ast (mX D) A i) := hg
              replace hQ : DK Hl8 H0_0.size a2 (tg (ast (mX D) A i)) := hQ
              replace hc2 : (ast (mX D) A i).length ≤ c2 := hc2
              replace m0_0 : Blk Hl8 b0_0 [.int .i64 k0, .int .i64 k1] 48 := m0_0
              replace hX : Ext H Hl8 := hX
              have hgi := gok_ast (A := A) hgo i
              have hgn := gok_act (r := gr A i) hgi
              obtain ⟨bl, ofl, hAe⟩ := (hA.ext hX).at'
              show XC _ _ _ (upds σ [(1, .slice aA A.length cA), (5, .pointer (some ⟨b0_0, 0, none⟩)), (7, .pointer (some ⟨bp, 0, none⟩)), (8, .int .i64 0), (9, .slice a2 (ast (mX D) A i).length c2), (11, .int .i64 (i : Nat))]) _
              refine xc_seq ?_
              refine xc_seq ?_
              refine xc_region ?_
              refine xl_pure rfl rfl rfl (pv_move (v := .int _ _) rfl rfl) ?_
              refine xl_pure rfl rfl rfl (pv_move (v := .slice _ _ _) rfl rfl) ?_
              refine xl_pure rfl rfl rfl (pv_len_l rfl rfl) ?_
              refine xl_dec rfl rfl rfl (pv_lss rfl rfl rfl) (fun h8_3 => ?_) (fun h8_3 => ?_)
              · skip
                refine xl_pure rfl rfl rfl (pv_move (v := .bool _) rfl rfl) ?_
                refine xl_pure rfl rfl rfl (pv_move (v := .int _ _) rfl rfl) ?_
                refine xl_dec rfl rfl rfl (pv_eql rfl rfl rfl) (fun h8_6 => ?_) (fun h8_6 => ?_)
                · skip
                  refine xl_pure rfl rfl rfl (pv_pick_t (v := .bool _) rfl rfl rfl) ?_
                  refine xl_nil ?_
                  refine xthen_normal ?_
                  refine xc_cond_t rfl ?_
                  refine xc_skip ?_
                  refine xthen_normal ?_
                  refine xc_seq ?_
                  refine xc_block ?_
                  refine xc_seq ?_
                  refine xc_region ?_
                  refine xl_pure rfl rfl rfl (pv_move (v := .slice _ _ _) rfl rfl) ?_
                  refine xl_pure rfl rfl rfl (pv_move (v := .slice _ _ _) rfl rfl) ?_
                  refine xl_pure rfl rfl rfl (pv_move (v := .int _ _) rfl rfl) ?_
                  refine xl_pure rfl rfl rfl (pv_indexAddr_l rfl (sl_eq (hAe (by omega)).1) rfl (by omega)) ?_
                  refine xl_light rfl rfl rfl (lv_load (v := .agg _) rfl rfl (by exact ld_row' (hAe (by omega)).2 hA.1 (by omega))) ?_
                  refine xl_heavy rfl rfl rfl (hv_call (g := 16) rfl rfl (rDo hQ hgi hc2 (gr A i) (hA.1.get (by omega))) rfl) ?_
                  rintro v10_5 H10_5 ⟨a10_5, c10_5, rfl, hS10_5, hc10_5, hE10_5⟩
                  have m0_0 := m0_0.ext hE10_5
                  have hX := hX.trans hE10_5
                  have hg := hg.ext hE10_5
                  refine xl_pure rfl rfl rfl (pv_move (v := .tuple _) rfl rfl) ?_
                  refine xl_pure rfl rfl rfl (pv_extract (v := .slice _ _ _) rfl rfl rfl) ?_
                  refine xl_pure rfl rfl rfl (pv_extract (v := .int _ _) rfl rfl rfl) ?_
                  refine xl_pure rfl rfl rfl (pv_extract (v := .int _ _) rfl rfl rfl) ?_
                  refine xl_pure rfl rfl rfl (pv_assign (v := .slice _ _ _) rfl rfl) ?_
                  refine xl_pure rfl rfl rfl (pv_assign (v := .int _ _) rfl rfl) ?_
                  refine xl_pure rfl rfl rfl (pv_assign (v := .int _ _) rfl rfl) ?_
                  refine xl_nil ?_
                  refine xthen_normal ?_
                  refine xc_seq ?_
                  obtain ⟨bl, ofl, hAe⟩ := (hA.ext hX).at'
                  refine xc_region ?_
                  refine xl_pure rfl rfl rfl (pv_move (v := .pointer _) rfl rfl) ?_
                  refine xl_pure rfl rfl rfl (pv_move (v := .slice _ _ _) rfl rfl) ?_
                  refine xl_pure rfl rfl rfl (pv_move (v := .int _ _) rfl rfl) ?_
                  refine xl_pure rfl rfl rfl (pv_indexAddr_l rfl (sl_eq (hAe (by omega)).1) rfl (by omega)) ?_
                  refine xl_light rfl rfl rfl (lv_load (v := .agg _) rfl rfl (by exact ld_row' (hAe (by omega)).2 hA.1 (by omega))) ?_
                  refine xl_heavy rfl rfl rfl (hv_call (g := 9) rfl rfl (c9 hg hgi (by obtain ⟨_, hb⟩ := hg.blk; have := hb.lt; omega) (gr A i) (hA.1.get (by omega))) rfl) ?_
                  rintro v11_5 H11_5 ⟨rfl, hg11_5, hK11_5⟩
                  have hQ := hS10_5.keep hK11_5 hg.blk gbp.le
                  have m0_0 := m0_0.keep hK11_5 (fun hf => by rcases hf with h | ⟨_, cs, h⟩; exact hnb h; exact h.ne m0_0 rfl rfl)
                  have hX := hX.keep hK11_5 (fun j h => by rcases h with rfl | ⟨h, _⟩ <;> omega)
                  have hg := hg11_5
                  refine xl_pure rfl rfl rfl (pv_move (v := .tuple _) rfl rfl) ?_
                  refine xl_pure rfl rfl rfl (pv_extract (v := .int _ _) rfl rfl rfl) ?_
                  refine xl_pure rfl rfl rfl (pv_extract (v := .int _ _) rfl rfl rfl) ?_
                  refine xl_pure rfl rfl rfl (pv_assign (v := .int _ _) rfl rfl) ?_
                  refine xl_pure rfl rfl rfl (pv_assign (v := .int _ _) rfl rfl) ?_
                  refine xl_nil ?_
                  refine xthen_normal ?_
                  refine xc_seq ?_
                  refine xc_region ?_
                  refine xl_pure rfl rfl rfl (pv_move (v := .slice _ _ _) rfl rfl) ?_
                  refine xl_pure rfl rfl rfl (pv_assign (v := .slice _ _ _) rfl rfl) ?_
                  refine xl_nil ?_
                  refine xthen_normal ?_
                  refine xc_seq ?_
                  refine xc_region ?_
                  refine xl_pure rfl rfl rfl (pv_move (v := .int _ _) rfl rfl) ?_
                  refine xl_pure rfl rfl rfl (pv_move (v := .int _ _) rfl rfl) ?_
                  refine xl_ndec rfl rfl rfl (pv_neq rfl rfl rfl) (fun h13_2 => ?_) (fun h13_2 => ?_)
                  · skip
                    refine xl_pure rfl rfl rfl (pv_move (v := .bool _) rfl rfl) ?_
                    refine xl_pure rfl rfl rfl (pv_move (v := .int _ _) rfl rfl) ?_
                    refine xl_pure rfl rfl rfl (pv_move (v := .int _ _) rfl rfl) ?_
                    refine xl_ndec rfl rfl rfl (pv_neq rfl rfl rfl) (fun h13_6 => ?_) (fun h13_6 => ?_)
                    · skip
                      refine xl_pure rfl rfl rfl (pv_pick_f (v := .bool _) rfl rfl rfl) ?_
                      refine xl_pure rfl rfl rfl (pv_move (v := .bool _) rfl rfl) ?_
                      refine xl_pure rfl rfl rfl (pv_move (v := .pointer _) rfl rfl) ?_
                      refine xl_heavy rfl rfl rfl (hv_call (g := 8) rfl rfl (gListG hg hgn) rfl) ?_
                      rintro v13_10 H13_10 ⟨a13_10, c13_10, rfl, hD13_10, hE13_10⟩
                      have m0_0 := m0_0.ext hE13_10
                      have hX := hX.trans hE13_10
                      have hg := hg.ext hE13_10
                      have hQ := hQ.ext hE13_10
                      refine xl_pure rfl rfl rfl (pv_move (v := .slice _ _ _) rfl rfl) ?_
                      refine xl_heavy rfl rfl rfl (hv_call (g := 10) rfl rfl (rSame (X := (actX (ast (mX D) A i) (gr A i))) (Y := (actX (ast (mX D) A i) (gr A i))) (hD13_10 0) hQ (by have := hgn.len; omega) (fun k hk => by have := mok_len (hgn.at hk).1; omega)) rfl) ?_
                      rintro v13_12 H13_12 ⟨r13_12, rfl, hb13_12, rfl⟩
                      obtain rfl : r13_12 = true := hb13_12.2 rfl
                      refine xl_pure rfl rfl rfl (pv_not rfl rfl) ?_
                      refine xl_pure rfl rfl rfl (pv_pick_f (v := .bool _) rfl rfl rfl) ?_
                      refine xl_nil ?_
                      refine xthen_normal ?_
                      refine xc_cond_f rfl ?_
                      refine xc_skip ?_
                      refine xblock_normal ?_
                      refine xthen_normal ?_
                      refine xc_region ?_
                      refine xl_pure rfl rfl rfl (pv_move (v := .int _ _) rfl rfl) ?_
                      refine xl_pure rfl rfl rfl (pv_add rfl rfl rfl (fit_i64 (by omega))) ?_
                      refine xl_pure rfl rfl rfl (pv_assign (v := .int _ _) rfl rfl) ?_
                      refine xl_nil ?_
                      refine xthen_normal ?_
                      exact ⟨(i + 1, _, _), ⟨rfl, rfl, rfl, rfl, rfl, rfl, trivial⟩, ⟨by (try simp only); omega, hg, hQ, hc10_5, m0_0, hX⟩, by (try simp only); omega⟩
                    · exact absurd rfl h13_6
                  · exact absurd rfl h13_2
                · exact absurd rfl h8_6
              · skip
                refine xl_pure rfl rfl rfl (pv_move (v := .bool _) rfl rfl) ?_
                refine xl_skip rfl rfl rfl ?_
                refine xl_skip rfl rfl rfl ?_
                refine xl_pure rfl rfl rfl (pv_pick_f (v := .bool _) rfl rfl rfl) ?_
                refine xl_nil ?_
                refine xthen_normal ?_
                refine xc_cond_f rfl ?_
                refine xc_exit ?_
                refine xthen_exit ?_
                refine xthen_exit ?_
                refine xblock_same ?_
                refine xthen_normal ?_
                refine xc_seq ?_
                refine xc_seq ?_
                refine xc_region ?_
                refine xl_pure rfl rfl rfl (pv_move (v := .int _ _) rfl rfl) ?_
                refine xl_ndec rfl rfl rfl (pv_neq rfl rfl rfl) (fun h15_1 => ?_) (fun h15_1 => ?_)
                · skip
                  refine xl_nil ?_
                  refine xthen_normal ?_
                  refine xc_cond_f rfl ?_
                  refine xc_skip ?_
                  refine xthen_normal ?_
                  refine xc_seq ?_
                  refine xc_region ?_
                  refine xl_pure rfl rfl rfl (pv_move (v := .pointer _) rfl rfl) ?_
                  refine xl_pure rfl rfl rfl (pv_indexAddr_a rfl rfl rfl (by omega)) ?_
                  refine xl_light rfl rfl rfl (lv_load (v := .int _ _) rfl rfl (ld_blk m0_0 rfl)) ?_
                  refine xl_heavy rfl rfl rfl (hv_call (g := 11) rfl rfl (gMembersG hg hgi k0) rfl) ?_
                  rintro v17_3 H17_3 ⟨hv17_3, hE17_3⟩
                  have m0_0 := m0_0.ext hE17_3
                  have hX := hX.trans hE17_3
                  have hg := hg.ext hE17_3
                  have hQ := hQ.ext hE17_3
                  rcases hv17_3 with ⟨hi17_3, aM, cM, rfl, hM1⟩ | ⟨hi17_3, rfl⟩
                  · skip
                    refine xl_pure rfl rfl rfl (pv_move (v := .tuple _) rfl rfl) ?_
                    refine xl_pure rfl rfl rfl (pv_extract (v := .slice _ _ _) rfl rfl rfl) ?_
                    refine xl_pure rfl rfl rfl (pv_extract (v := .int _ _) rfl rfl rfl) ?_
                    refine xl_pure rfl rfl rfl (pv_assign (v := .slice _ _ _) rfl rfl) ?_
                    refine xl_pure rfl rfl rfl (pv_assign (v := .int _ _) rfl rfl) ?_
                    refine xl_nil ?_
                    refine xthen_normal ?_
                    refine xc_seq ?_
                    refine xc_region ?_
                    refine xl_pure rfl rfl rfl (pv_move (v := .slice _ _ _) rfl rfl) ?_
                    refine xl_pure rfl rfl rfl (pv_indexAddr_a rfl rfl rfl (by omega)) ?_
                    refine xl_light rfl rfl rfl (lv_load (v := .int _ _) rfl rfl (ld_blk m0_0 rfl)) ?_
                    refine xl_heavy rfl rfl rfl (hv_call (g := 17) rfl rfl (rMembersIn hQ hgi hi17_3) rfl) ?_
                    rintro v18_3 H18_3 ⟨aN, cN, rfl, hM2, rfl⟩
                    refine xl_pure rfl rfl rfl (pv_move (v := .tuple _) rfl rfl) ?_
                    refine xl_pure rfl rfl rfl (pv_extract (v := .slice _ _ _) rfl rfl rfl) ?_
                    refine xl_pure rfl rfl rfl (pv_extract (v := .int _ _) rfl rfl rfl) ?_
                    refine xl_pure rfl rfl rfl (pv_assign (v := .slice _ _ _) rfl rfl) ?_
                    refine xl_pure rfl rfl rfl (pv_assign (v := .int _ _) rfl rfl) ?_
                    refine xl_nil ?_
                    refine xthen_normal ?_
                    refine xc_seq ?_
                    refine xp_start rfl (by repeat (first | with_reducible exact np_fin | with_reducible exact np_ret | with_reducible refine np_then ?_ | with_reducible refine np_block ?_)) (by kernel_rfl) ?_
                    refine xp_pure (i := 0) rfl (by kernel_rfl) (by kernel_rfl) rfl rfl rfl (pv_move (v := .pointer _) rfl rfl) ?_
                    refine xp_pure (i := 2) rfl (by kernel_rfl) (by kernel_rfl) rfl rfl rfl (pv_move (v := .slice _ _ _) rfl rfl) ?_
                    refine xp_heavy (i := 1) (by kernel_rfl) ?_
                    refine xph_val rfl rfl rfl rfl (hv_call (g := 8) rfl rfl (gListG hg hgi) rfl) pn ?_
                    rintro v19_1 H19_1 ⟨a19_1, c19_1, rfl, hD19_1, hE19_1⟩
                    have m0_0 := m0_0.ext hE19_1
                    have hX := hX.trans hE19_1
                    have hg := hg.ext hE19_1
                    have hQ := hQ.ext hE19_1
                    have hXl := hE19_1
                    refine ⟨okn, ?_⟩
                    refine xp_heavy (i := 3) (by kernel_rfl) ?_
                    refine xph_val rfl rfl rfl rfl (hv_call (g := 10) rfl rfl (rSame (X := (ast (mX D) A i)) (Y := (ast (mX D) A i)) (hD19_1 0) hQ (by have := hgi.len; omega) (fun k hk => by have := mok_len (hgi.at hk).1; omega)) rfl) pn ?_
                    rintro v19_3 H19_3 ⟨r19_3, rfl, hb19_3, rfl⟩
                    obtain rfl : r19_3 = true := hb19_3.2 rfl
                    refine ⟨okn, ?_⟩
                    refine xp_pure (i := 4) rfl (by kernel_rfl) (by kernel_rfl) rfl rfl rfl (pv_move (v := .bool _) rfl rfl) ?_
                    refine xp_pure (i := 5) rfl (by kernel_rfl) (by kernel_rfl) rfl rfl rfl (pv_move (v := .slice _ _ _) rfl rfl) ?_
                    refine xp_pure (i := 6) rfl (by kernel_rfl) (by kernel_rfl) rfl rfl rfl (pv_move (v := .slice _ _ _) rfl rfl) ?_
                    refine xp_heavy (i := 7) (by kernel_rfl) ?_
                    refine xph_val rfl rfl rfl rfl (hv_call (g := 18) rfl rfl (rSameM _ _ _ _ _ _ (hM1.ext hXl).rows (hM2.ext hXl).rows (by have := mok_len (hgi.at (inG_ix hi17_3).1).1; omega)) rfl) pn ?_
                    rintro v19_7 H19_7 ⟨r19_7, rfl, hb19_7, rfl⟩
                    obtain rfl : r19_7 = true := hb19_7.2 rfl
                    refine ⟨okn, ?_⟩
                    refine xp_pure (i := 8) rfl (by kernel_rfl) (by kernel_rfl) rfl rfl rfl (pv_pick_t (v := .bool _) rfl rfl rfl) ?_
                    refine xp_pure (i := 9) rfl (by kernel_rfl) (by kernel_rfl) rfl rfl rfl (pv_move (v := .bool _) rfl rfl) ?_
                    refine xp_pure (i := 10) rfl (by kernel_rfl) (by kernel_rfl) rfl rfl rfl (pv_move (v := .int _ _) rfl rfl) ?_
                    refine xp_pure (i := 11) rfl (by kernel_rfl) (by kernel_rfl) rfl rfl rfl (pv_move (v := .int _ _) rfl rfl) ?_
                    refine xp_dec (i := 12) rfl (by kernel_rfl) (by kernel_rfl) rfl rfl rfl (pv_eql rfl rfl rfl) (fun h19_12 => ?_) (fun h19_12 => ?_)
                    · skip
                      refine xp_pure (i := 13) rfl (by kernel_rfl) (by kernel_rfl) rfl rfl rfl (pv_pick_t (v := .bool _) rfl rfl rfl) ?_
                      refine xp_pure (i := 14) rfl (by kernel_rfl) (by kernel_rfl) rfl rfl rfl (pv_move (v := .bool _) rfl rfl) ?_
                      refine xp_pure (i := 15) rfl (by kernel_rfl) (by kernel_rfl) rfl rfl rfl (pv_move (v := .pointer _) rfl rfl) ?_
                      refine xp_pure (i := 16) rfl (by kernel_rfl) (by kernel_rfl) rfl rfl rfl (pv_indexAddr_a rfl rfl rfl (by omega)) ?_
                      refine xp_light (i := 17) rfl (by kernel_rfl) (by kernel_rfl) rfl rfl rfl (lv_load (v := .int _ _) rfl rfl (ld_blk m0_0 rfl)) ?_
                      refine xp_pure (i := 19) rfl (by kernel_rfl) (by kernel_rfl) rfl rfl rfl (pv_move (v := .slice _ _ _) rfl rfl) ?_
                      refine xp_pure (i := 20) rfl (by kernel_rfl) (by kernel_rfl) rfl rfl rfl (pv_indexAddr_a rfl rfl rfl (by omega)) ?_
                      refine xp_light (i := 21) rfl (by kernel_rfl) (by kernel_rfl) rfl rfl rfl (lv_load (v := .int _ _) rfl rfl (ld_blk m0_0 rfl)) ?_
                      refine xp_heavy (i := 18) (by kernel_rfl) ?_
                      refine xph_val rfl rfl rfl rfl (hv_call (g := 12) rfl rfl (gOfG hg hgi k1) rfl) (pk (by kernel_rfl) (pd (by kernel_rfl) pn)) ?_
                      rintro v19_18 H19_18 ⟨a19_18, c19_18, rfl, hI19_18, hE19_18⟩
                      have m0_0 := m0_0.ext hE19_18
                      have hX := hX.trans hE19_18
                      have hg := hg.ext hE19_18
                      have hQ := hQ.ext hE19_18
                      refine ⟨(okc (lv_load (v := .int _ _) rfl rfl (ld_blk m0_0 rfl)) okn), ?_⟩
                      refine xp_heavy (i := 22) (by kernel_rfl) ?_
                      refine xph_val rfl rfl rfl rfl (hv_call (g := 20) rfl rfl (rOf hQ hgi k1) rfl) (pd (by kernel_rfl) pn) ?_
                      rintro v19_22 H19_22 ⟨a19_22, c19_22, rfl, hI19_22, hE19_22⟩
                      have m0_0 := m0_0.ext hE19_22
                      have hX := hX.trans hE19_22
                      have hI19_18 := hI19_18.ext hE19_22
                      refine ⟨okn, ?_⟩
                      refine xp_heavy (i := 23) (by kernel_rfl) ?_
                      refine xph_val rfl rfl rfl rfl (hv_call (g := 19) rfl rfl (iSame hI19_18 hI19_22 (by have := ofI_len (ast (mX D) A i) k1 (ast (mX D) A i).length; have := hgi.len; omega)) rfl) pn ?_
                      rintro v19_23 H19_23 ⟨r19_23, rfl, hb19_23, rfl⟩
                      obtain rfl : r19_23 = true := hb19_23.2 rfl
                      refine ⟨okn, ?_⟩
                      refine xp_pure (i := 24) rfl (by kernel_rfl) (by kernel_rfl) rfl rfl rfl (pv_pick_t (v := .bool _) rfl rfl rfl) ?_
                      refine xp_pure (i := 25) rfl (by kernel_rfl) (by kernel_rfl) rfl rfl rfl (pv_move (v := .bool _) rfl rfl) ?_
                      refine xp_heavy (i := 26) (by kernel_rfl) ?_
                      refine xph_val rfl rfl rfl rfl (hv_call (g := 6) rfl rfl (c6) rfl) pn ?_
                      rintro v19_26 H19_26 ⟨rfl, hE19_26⟩
                      have m0_0 := m0_0.ext hE19_26
                      have hX := hX.trans hE19_26
                      refine ⟨okn, ?_⟩
                      refine xp_pure (i := 27) rfl (by kernel_rfl) (by kernel_rfl) rfl rfl rfl (pv_pick_t (v := .bool _) rfl rfl rfl) ?_
                      refine xp_pure (i := 28) rfl (by kernel_rfl) (by kernel_rfl) rfl rfl rfl (pv_assign (v := .bool _) rfl rfl) ?_
                      refine xp_done (by kernel_rfl) ?_
                      refine xthen_normal ?_
                      refine xc_ret ?_
                      refine fin_ret (res1 (v := .bool _) rfl rfl) ?_
                      exact ⟨rfl, hX⟩
                    · exact absurd (by decide) h19_12
                  · skip
                    refine xl_pure rfl rfl rfl (pv_move (v := .tuple _) rfl rfl) ?_
                    refine xl_pure rfl rfl rfl (pv_extract (v := .slice _ _ _) rfl rfl rfl) ?_
                    refine xl_pure rfl rfl rfl (pv_extract (v := .int _ _) rfl rfl rfl) ?_
                    refine xl_pure rfl rfl rfl (pv_assign (v := .slice _ _ _) rfl rfl) ?_
                    refine xl_pure rfl rfl rfl (pv_assign (v := .int _ _) rfl rfl) ?_
                    refine xl_nil ?_
                    refine xthen_normal ?_
                    refine xc_seq ?_
                    refine xc_region ?_
                    refine xl_pure rfl rfl rfl (pv_move (v := .slice _ _ _) rfl rfl) ?_
                    refine xl_pure rfl rfl rfl (pv_indexAddr_a rfl rfl rfl (by omega)) ?_
                    refine xl_light rfl rfl rfl (lv_load (v := .int _ _) rfl rfl (ld_blk m0_0 rfl)) ?_
                    refine xl_heavy rfl rfl rfl (hv_call (g := 17) rfl rfl (rMembersNo hQ hgi hi17_3) rfl) ?_
                    rintro v18_3 H18_3 ⟨rfl, rfl⟩
                    refine xl_pure rfl rfl rfl (pv_move (v := .tuple _) rfl rfl) ?_
                    refine xl_pure rfl rfl rfl (pv_extract (v := .slice _ _ _) rfl rfl rfl) ?_
                    refine xl_pure rfl rfl rfl (pv_extract (v := .int _ _) rfl rfl rfl) ?_
                    refine xl_pure rfl rfl rfl (pv_assign (v := .slice _ _ _) rfl rfl) ?_
                    refine xl_pure rfl rfl rfl (pv_assign (v := .int _ _) rfl rfl) ?_
                    refine xl_nil ?_
                    refine xthen_normal ?_
                    refine xc_seq ?_
                    refine xp_start rfl (by repeat (first | with_reducible exact np_fin | with_reducible exact np_ret | with_reducible refine np_then ?_ | with_reducible refine np_block ?_)) (by kernel_rfl) ?_
                    refine xp_pure (i := 0) rfl (by kernel_rfl) (by kernel_rfl) rfl rfl rfl (pv_move (v := .pointer _) rfl rfl) ?_
                    refine xp_pure (i := 2) rfl (by kernel_rfl) (by kernel_rfl) rfl rfl rfl (pv_move (v := .slice _ _ _) rfl rfl) ?_
                    refine xp_heavy (i := 1) (by kernel_rfl) ?_
                    refine xph_val rfl rfl rfl rfl (hv_call (g := 8) rfl rfl (gListG hg hgi) rfl) pn ?_
                    rintro v19_1 H19_1 ⟨a19_1, c19_1, rfl, hD19_1, hE19_1⟩
                    have m0_0 := m0_0.ext hE19_1
                    have hX := hX.trans hE19_1
                    have hg := hg.ext hE19_1
                    have hQ := hQ.ext hE19_1
                    have hXl := hE19_1
                    refine ⟨okn, ?_⟩
                    refine xp_heavy (i := 3) (by kernel_rfl) ?_
                    refine xph_val rfl rfl rfl rfl (hv_call (g := 10) rfl rfl (rSame (X := (ast (mX D) A i)) (Y := (ast (mX D) A i)) (hD19_1 0) hQ (by have := hgi.len; omega) (fun k hk => by have := mok_len (hgi.at hk).1; omega)) rfl) pn ?_
                    rintro v19_3 H19_3 ⟨r19_3, rfl, hb19_3, rfl⟩
                    obtain rfl : r19_3 = true := hb19_3.2 rfl
                    refine ⟨okn, ?_⟩
                    refine xp_pure (i := 4) rfl (by kernel_rfl) (by kernel_rfl) rfl rfl rfl (pv_move (v := .bool _) rfl rfl) ?_
                    refine xp_pure (i := 5) rfl (by kernel_rfl) (by kernel_rfl) rfl rfl rfl (pv_move (v := .slice _ _ _) rfl rfl) ?_
                    refine xp_pure (i := 6) rfl (by kernel_rfl) (by kernel_rfl) rfl rfl rfl (pv_move (v := .slice _ _ _) rfl rfl) ?_
                    refine xp_heavy (i := 7) (by kernel_rfl) ?_
                    refine xph_val rfl rfl rfl rfl (hv_call (g := 18) rfl rfl (rSameM [] [] none none 0 0 (RowsT.nil (e := 0)).rows (RowsT.nil (e := 0)).rows (by decide)) rfl) pn ?_
                    rintro v19_7 H19_7 ⟨r19_7, rfl, hb19_7, rfl⟩
                    obtain rfl : r19_7 = true := hb19_7.2 rfl
                    refine ⟨okn, ?_⟩
                    refine xp_pure (i := 8) rfl (by kernel_rfl) (by kernel_rfl) rfl rfl rfl (pv_pick_t (v := .bool _) rfl rfl rfl) ?_
                    refine xp_pure (i := 9) rfl (by kernel_rfl) (by kernel_rfl) rfl rfl rfl (pv_move (v := .bool _) rfl rfl) ?_
                    refine xp_pure (i := 10) rfl (by kernel_rfl) (by kernel_rfl) rfl rfl rfl (pv_move (v := .int _ _) rfl rfl) ?_
                    refine xp_pure (i := 11) rfl (by kernel_rfl) (by kernel_rfl) rfl rfl rfl (pv_move (v := .int _ _) rfl rfl) ?_
                    refine xp_dec (i := 12) rfl (by kernel_rfl) (by kernel_rfl) rfl rfl rfl (pv_eql rfl rfl rfl) (fun h19_12 => ?_) (fun h19_12 => ?_)
                    · skip
                      refine xp_pure (i := 13) rfl (by kernel_rfl) (by kernel_rfl) rfl rfl rfl (pv_pick_t (v := .bool _) rfl rfl rfl) ?_
                      refine xp_pure (i := 14) rfl (by kernel_rfl) (by kernel_rfl) rfl rfl rfl (pv_move (v := .bool _) rfl rfl) ?_
                      refine xp_pure (i := 15) rfl (by kernel_rfl) (by kernel_rfl) rfl rfl rfl (pv_move (v := .pointer _) rfl rfl) ?_
                      refine xp_pure (i := 16) rfl (by kernel_rfl) (by kernel_rfl) rfl rfl rfl (pv_indexAddr_a rfl rfl rfl (by omega)) ?_
                      refine xp_light (i := 17) rfl (by kernel_rfl) (by kernel_rfl) rfl rfl rfl (lv_load (v := .int _ _) rfl rfl (ld_blk m0_0 rfl)) ?_
                      refine xp_pure (i := 19) rfl (by kernel_rfl) (by kernel_rfl) rfl rfl rfl (pv_move (v := .slice _ _ _) rfl rfl) ?_
                      refine xp_pure (i := 20) rfl (by kernel_rfl) (by kernel_rfl) rfl rfl rfl (pv_indexAddr_a rfl rfl rfl (by omega)) ?_
                      refine xp_light (i := 21) rfl (by kernel_rfl) (by kernel_rfl) rfl rfl rfl (lv_load (v := .int _ _) rfl rfl (ld_blk m0_0 rfl)) ?_
                      refine xp_heavy (i := 18) (by kernel_rfl) ?_
                      refine xph_val rfl rfl rfl rfl (hv_call (g := 12) rfl rfl (gOfG hg hgi k1) rfl) (pk (by kernel_rfl) (pd (by kernel_rfl) pn)) ?_
                      rintro v19_18 H19_18 ⟨a19_18, c19_18, rfl, hI19_18, hE19_18⟩
                      have m0_0 := m0_0.ext hE19_18
                      have hX := hX.trans hE19_18
                      have hg := hg.ext hE19_18
                      have hQ := hQ.ext hE19_18
                      refine ⟨(okc (lv_load (v := .int _ _) rfl rfl (ld_blk m0_0 rfl)) okn), ?_⟩
                      refine xp_heavy (i := 22) (by kernel_rfl) ?_
                      refine xph_val rfl rfl rfl rfl (hv_call (g := 20) rfl rfl (rOf hQ hgi k1) rfl) (pd (by kernel_rfl) pn) ?_
                      rintro v19_22 H19_22 ⟨a19_22, c19_22, rfl, hI19_22, hE19_22⟩
                      have m0_0 := m0_0.ext hE19_22
                      have hX := hX.trans hE19_22
                      have hI19_18 := hI19_18.ext hE19_22
                      refine ⟨okn, ?_⟩
                      refine xp_heavy (i := 23) (by kernel_rfl) ?_
                      refine xph_val rfl rfl rfl rfl (hv_call (g := 19) rfl rfl (iSame hI19_18 hI19_22 (by have := ofI_len (ast (mX D) A i) k1 (ast (mX D) A i).length; have := hgi.len; omega)) rfl) pn ?_
                      rintro v19_23 H19_23 ⟨r19_23, rfl, hb19_23, rfl⟩
                      obtain rfl : r19_23 = true := hb19_23.2 rfl
                      refine ⟨okn, ?_⟩
                      refine xp_pure (i := 24) rfl (by kernel_rfl) (by kernel_rfl) rfl rfl rfl (pv_pick_t (v := .bool _) rfl rfl rfl) ?_
                      refine xp_pure (i := 25) rfl (by kernel_rfl) (by kernel_rfl) rfl rfl rfl (pv_move (v := .bool _) rfl rfl) ?_
                      refine xp_heavy (i := 26) (by kernel_rfl) ?_
                      refine xph_val rfl rfl rfl rfl (hv_call (g := 6) rfl rfl (c6) rfl) pn ?_
                      rintro v19_26 H19_26 ⟨rfl, hE19_26⟩
                      have m0_0 := m0_0.ext hE19_26
                      have hX := hX.trans hE19_26
                      refine ⟨okn, ?_⟩
                      refine xp_pure (i := 27) rfl (by kernel_rfl) (by kernel_rfl) rfl rfl rfl (pv_pick_t (v := .bool _) rfl rfl rfl) ?_
                      refine xp_pure (i := 28) rfl (by kernel_rfl) (by kernel_rfl) rfl rfl rfl (pv_assign (v := .bool _) rfl rfl) ?_
                      refine xp_done (by kernel_rfl) ?_
                      refine xthen_normal ?_
                      refine xc_ret ?_
                      refine fin_ret (res1 (v := .bool _) rfl rfl) ?_
                      exact ⟨rfl, hX⟩
                    · exact absurd (by decide) h19_12
                · exact absurd rfl h15_1
          · exact absurd rfl h5_7
        · exact absurd rfl h5_2
      · skip
        refine xl_pure rfl rfl rfl (pv_move (v := .tuple _) rfl rfl) ?_
        refine xl_pure rfl rfl rfl (pv_extract (v := .pointer _) rfl rfl rfl) ?_
        refine xl_pure rfl rfl rfl (pv_extract (v := .int _ _) rfl rfl rfl) ?_
        refine xl_pure rfl rfl rfl (pv_assign (v := .pointer _) rfl rfl) ?_
        refine xl_pure rfl rfl rfl (pv_assign (v := .int _ _) rfl rfl) ?_
        refine xl_nil ?_
        refine xthen_normal ?_
        refine xc_seq ?_
        refine xc_region ?_
        refine xl_pure rfl rfl rfl (pv_move (v := .slice _ _ _) rfl rfl) ?_
        refine xl_heavy rfl rfl rfl (hv_call (g := 15) rfl rfl (rLoad ((hDh H.size (Nat.le_refl _)).ext hX) (fun k hk => by have := hf2 k hk; omega) (by omega)) rfl) ?_
        rintro v4_1 H4_1 ⟨e4_1, hl4_1, hv4_1, rfl⟩
        have he4_1 := hl4_1.uniq hl3_1
        rw [he4_1] at hv4_1
        obtain rfl : v4_1 = .tuple #[.slice none 0 0, .int .i64 e3_1] := by rcases hv4_1 with ⟨h, _⟩ | ⟨_, h⟩; exact absurd h hne; exact h
        refine xl_pure rfl rfl rfl (pv_move (v := .tuple _) rfl rfl) ?_
        refine xl_pure rfl rfl rfl (pv_extract (v := .slice _ _ _) rfl rfl rfl) ?_
        refine xl_pure rfl rfl rfl (pv_extract (v := .int _ _) rfl rfl rfl) ?_
        refine xl_pure rfl rfl rfl (pv_assign (v := .slice _ _ _) rfl rfl) ?_
        refine xl_pure rfl rfl rfl (pv_assign (v := .int _ _) rfl rfl) ?_
        refine xl_nil ?_
        refine xthen_normal ?_
        refine xc_seq ?_
        refine xc_seq ?_
        refine xc_region ?_
        refine xl_pure rfl rfl rfl (pv_move (v := .int _ _) rfl rfl) ?_
        refine xl_pure rfl rfl rfl (pv_move (v := .int _ _) rfl rfl) ?_
        refine xl_ndec rfl rfl rfl (pv_neq rfl rfl rfl) (fun h5_2 => ?_) (fun h5_2 => ?_)
        · skip
          refine xl_pure rfl rfl rfl (pv_move (v := .bool _) rfl rfl) ?_
          refine xl_pure rfl rfl rfl (pv_move (v := .pointer _) rfl rfl) ?_
          refine xl_pure rfl rfl rfl (pv_neq_nn rfl rfl rfl) ?_
          refine xl_pure rfl rfl rfl (pv_move (v := .int _ _) rfl rfl) ?_
          refine xl_dec rfl rfl rfl (pv_eql rfl rfl rfl) (fun h5_7 => ?_) (fun h5_7 => ?_)
          · exact absurd h5_7 hne
          · skip
            refine xl_pure rfl rfl rfl (pv_neq_b rfl rfl rfl) ?_
            refine xl_pure rfl rfl rfl (pv_pick_f (v := .bool _) rfl rfl rfl) ?_
            refine xl_nil ?_
            refine xthen_normal ?_
            refine xc_cond_f rfl ?_
            refine xc_skip ?_
            refine xthen_normal ?_
            refine xc_seq ?_
            refine xc_seq ?_
            refine xc_region ?_
            refine xl_pure rfl rfl rfl (pv_assign (v := .int _ _) rfl rfl) ?_
            refine xl_nil ?_
            refine xthen_normal ?_
            refine xc_block ?_
            refine xc_loop (τ := Unit) (fun t => [(1, .slice aA A.length cA), (5, .pointer (some ⟨b0_0, 0, none⟩)), (7, .pointer none), (8, .int .i64 e3_1), (9, .slice none 0 0), (11, .int .i64 0)]) (fun t H' => (True) ∧ (Ext H H')) (fun t H' => 0) () ?_ ?_ ?_
            · exact ⟨rfl, rfl, rfl, rfl, rfl, rfl, trivial⟩
            · skip
              exact ⟨trivial, hX⟩
            · intro σ
              clear hX m0_0
              rintro t Hl8 ⟨hT, hX⟩
              replace hT : True := hT
              replace hX : Ext H Hl8 := hX
              show XC _ _ _ (upds σ [(1, .slice aA A.length cA), (5, .pointer (some ⟨b0_0, 0, none⟩)), (7, .pointer none), (8, .int .i64 e3_1), (9, .slice none 0 0), (11, .int .i64 0)]) _
              refine xc_seq ?_
              refine xc_seq ?_
              refine xc_region ?_
              refine xl_pure rfl rfl rfl (pv_move (v := .int _ _) rfl rfl) ?_
              refine xl_pure rfl rfl rfl (pv_move (v := .slice _ _ _) rfl rfl) ?_
              refine xl_pure rfl rfl rfl (pv_len_l rfl rfl) ?_
              refine xl_dec rfl rfl rfl (pv_lss rfl rfl rfl) (fun h8_3 => ?_) (fun h8_3 => ?_)
              · skip
                refine xl_pure rfl rfl rfl (pv_move (v := .bool _) rfl rfl) ?_
                refine xl_pure rfl rfl rfl (pv_move (v := .int _ _) rfl rfl) ?_
                refine xl_dec rfl rfl rfl (pv_eql rfl rfl rfl) (fun h8_6 => ?_) (fun h8_6 => ?_)
                · exact absurd h8_6 hne
                · skip
                  refine xl_pure rfl rfl rfl (pv_pick_t (v := .bool _) rfl rfl rfl) ?_
                  refine xl_nil ?_
                  refine xthen_normal ?_
                  refine xc_cond_f rfl ?_
                  refine xc_exit ?_
                  refine xthen_exit ?_
                  refine xthen_exit ?_
                  refine xblock_same ?_
                  refine xthen_normal ?_
                  refine xc_seq ?_
                  refine xc_seq ?_
                  refine xc_region ?_
                  refine xl_pure rfl rfl rfl (pv_move (v := .int _ _) rfl rfl) ?_
                  refine xl_ndec rfl rfl rfl (pv_neq rfl rfl rfl) (fun h15_1 => ?_) (fun h15_1 => ?_)
                  · exact absurd h15_1 hne
                  · skip
                    refine xl_nil ?_
                    refine xthen_normal ?_
                    refine xc_cond_t rfl ?_
                    refine xc_seq ?_
                    refine xc_region ?_
                    refine xl_heavy rfl rfl rfl (hv_call (g := 6) rfl rfl (c6) rfl) ?_
                    rintro v16_0 H16_0 ⟨rfl, hE16_0⟩
                    have hX := hX.trans hE16_0
                    refine xl_pure rfl rfl rfl (pv_assign (v := .bool _) rfl rfl) ?_
                    refine xl_nil ?_
                    refine xthen_normal ?_
                    refine xc_ret ?_
                    refine xthen_ret ?_
                    refine fin_ret (res1 (v := .bool _) rfl rfl) ?_
                    exact ⟨rfl, hX⟩
              · skip
                refine xl_pure rfl rfl rfl (pv_move (v := .bool _) rfl rfl) ?_
                refine xl_skip rfl rfl rfl ?_
                refine xl_skip rfl rfl rfl ?_
                refine xl_pure rfl rfl rfl (pv_pick_f (v := .bool _) rfl rfl rfl) ?_
                refine xl_nil ?_
                refine xthen_normal ?_
                refine xc_cond_f rfl ?_
                refine xc_exit ?_
                refine xthen_exit ?_
                refine xthen_exit ?_
                refine xblock_same ?_
                refine xthen_normal ?_
                refine xc_seq ?_
                refine xc_seq ?_
                refine xc_region ?_
                refine xl_pure rfl rfl rfl (pv_move (v := .int _ _) rfl rfl) ?_
                refine xl_ndec rfl rfl rfl (pv_neq rfl rfl rfl) (fun h15_1 => ?_) (fun h15_1 => ?_)
                · exact absurd h15_1 hne
                · skip
                  refine xl_nil ?_
                  refine xthen_normal ?_
                  refine xc_cond_t rfl ?_
                  refine xc_seq ?_
                  refine xc_region ?_
                  refine xl_heavy rfl rfl rfl (hv_call (g := 6) rfl rfl (c6) rfl) ?_
                  rintro v16_0 H16_0 ⟨rfl, hE16_0⟩
                  have hX := hX.trans hE16_0
                  refine xl_pure rfl rfl rfl (pv_assign (v := .bool _) rfl rfl) ?_
                  refine xl_nil ?_
                  refine xthen_normal ?_
                  refine xc_ret ?_
                  refine xthen_ret ?_
                  refine fin_ret (res1 (v := .bool _) rfl rfl) ?_
                  exact ⟨rfl, hX⟩
        · exact absurd rfl h5_2
end Go.XG
