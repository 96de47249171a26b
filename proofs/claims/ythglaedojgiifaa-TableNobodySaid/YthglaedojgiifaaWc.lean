/-
  Walks of the seat's functions over the logic XG: each function, what it computes. Printed by a program out of wip/walks.py.
-/
import Derived.Test.YthglaedojgiifaaI
import Derived.Test.YthglaedojgiifaaTm
import Derived.Test.YthglaedojgiifaaTa
import Derived.Test.YthglaedojgiifaaTb
import Derived.Test.YthglaedojgiifaaTc
import Derived.Test.YthglaedojgiifaaTd
import Derived.Test.YthglaedojgiifaaTe
import Derived.Test.YthglaedojgiifaaP
import Derived.Test.YthglaedojgiifaaWa
import Derived.Test.YthglaedojgiifaaWb
namespace Go.XG
open Go.Proofs
set_option maxRecDepth 4000
set_option maxHeartbeats 4000000
theorem c24 {O : Outer} {H : Heap} {a : Option Addr} {c : Nat} {l : List (List Int)} (hR : RowsT H 52 5 a l) (hl : l.length < 1099511627776) (fk tk : List Int) (hf : fk.length = 4) (ht : tk.length = 4) (most : Int) :
    FnC Try.prog 24 #[.slice a l.length c, .agg (ints fk).toArray, .agg (ints tk).toArray, .int .i64 most] O H (fun v H' => ∃ a' c', v = .slice a' ((l.filter (inR fk tk)).take most.toNat).length c' ∧ RowsT H' 52 5 a' ((l.filter (inR fk tk)).take most.toNat) ∧ Ext H H') := by
  refine fn_enter (A := [.slice a l.length c, .agg (ints fk).toArray, .agg (ints tk).toArray, .int .i64 most]) Try.func24 rfl rfl ?_
  have hX := Ext.refl H
  refine xc_seq ?_
  refine xc_region ?_
  refine xl_heavy rfl rfl rfl (hv_box rfl rfl) ?_
  rintro v0_0 H0_0 ⟨b0_0, rfl, hN0_0⟩
  have gb0_0 := hX.fresh hN0_0
  have hX := hX.trans hN0_0.ext
  have m0_0 := hN0_0.blk
  refine xl_heavy rfl rfl rfl (hv_box rfl rfl) ?_
  rintro v0_1 H0_1 ⟨b0_1, rfl, hN0_1⟩
  have gb0_1 := hX.fresh hN0_1
  have nm0_0_0_1 := m0_0.apart hN0_1
  have m0_0 := m0_0.ext hN0_1.ext
  have hX := hX.trans hN0_1.ext
  have m0_1 := hN0_1.blk
  refine xl_pure rfl rfl rfl (pv_assign (v := .slice _ _ _) rfl rfl) ?_
  refine xl_nil ?_
  refine xthen_normal ?_
  refine xc_seq ?_
  refine xc_region ?_
  refine xl_pure rfl rfl rfl (pv_assign (v := .slice _ _ _) rfl rfl) ?_
  refine xl_nil ?_
  refine xthen_normal ?_
  refine xc_seq ?_
  refine xc_seq ?_
  refine xc_region ?_
  refine xl_pure rfl rfl rfl (pv_assign (v := .int _ _) rfl rfl) ?_
  refine xl_nil ?_
  refine xthen_normal ?_
  refine xc_block ?_
  refine xc_loop (τ := Nat × Option Addr × Nat) (fun t => [(0, .slice a l.length c), (3, .int .i64 most), (5, .pointer (some ⟨b0_0, 0, none⟩)), (6, .pointer (some ⟨b0_1, 0, none⟩)), (9, .slice t.2.1 ((l.take t.1).filter (inR fk tk)).length t.2.2), (10, .int .i64 (t.1 : Nat))]) (fun t H' => (t.1 ≤ l.length) ∧ (((l.take t.1).filter (inR fk tk)).length ≤ most.toNat) ∧ (Blk H' b0_0 (ints fk) 23) ∧ (Blk H' b0_1 (ints tk) 23) ∧ (Own H' H.size 52 5 (.slice t.2.1 ((l.take t.1).filter (inR fk tk)).length t.2.2) ((l.take t.1).filter (inR fk tk)).length (fr (((l.take t.1).filter (inR fk tk))))) ∧ (Ext H H')) (fun t H' => l.length - t.1) (0, none, 0) ?_ ?_ ?_
  · exact ⟨rfl, rfl, rfl, rfl, rfl, rfl, trivial⟩
  · skip
    exact ⟨Nat.zero_le _, Nat.zero_le _, m0_0, m0_1, Own.nil .., hX⟩
  · intro σ
    clear hX m0_0 m0_1
    rintro ⟨i, va, vc⟩ Hl3 ⟨hi, hm, m0_0, m0_1, ho, hX⟩
    replace hi : i ≤ l.length := hi
    replace hm : ((l.take i).filter (inR fk tk)).length ≤ most.toNat := hm
    replace m0_0 : Blk Hl3 b0_0 (ints fk) 23 := m0_0
    replace m0_1 : Blk Hl3 b0_1 (ints tk) 23 := m0_1
    replace ho : Own Hl3 H.size 52 5 (.slice va ((l.take i).filter (inR fk tk)).length vc) ((l.take i).filter (inR fk tk)).length (fr (((l.take i).filter (inR fk tk)))) := ho
    replace hX : Ext H Hl3 := hX
    show XC _ _ _ (upds σ [(0, .slice a l.length c), (3, .int .i64 most), (5, .pointer (some ⟨b0_0, 0, none⟩)), (6, .pointer (some ⟨b0_1, 0, none⟩)), (9, .slice va ((l.take i).filter (inR fk tk)).length vc), (10, .int .i64 (i : Nat))]) _
    refine xc_seq ?_
    refine xc_seq ?_
    refine xc_region ?_
    refine xl_pure rfl rfl rfl (pv_move (v := .int _ _) rfl rfl) ?_
    refine xl_pure rfl rfl rfl (pv_move (v := .slice _ _ _) rfl rfl) ?_
    refine xl_pure rfl rfl rfl (pv_len_l rfl rfl) ?_
    refine xl_dec rfl rfl rfl (pv_lss rfl rfl rfl) (fun h3_3 => ?_) (fun h3_3 => ?_)
    · skip
      refine xl_pure rfl rfl rfl (pv_move (v := .bool _) rfl rfl) ?_
      refine xl_pure rfl rfl rfl (pv_move (v := .slice _ _ _) rfl rfl) ?_
      refine xl_pure rfl rfl rfl (pv_len_l rfl rfl) ?_
      refine xl_pure rfl rfl rfl (pv_move (v := .int _ _) rfl rfl) ?_
      refine xl_dec rfl rfl rfl (pv_lss rfl rfl rfl) (fun h3_8 => ?_) (fun h3_8 => ?_)
      · skip
        refine xl_pure rfl rfl rfl (pv_pick_t (v := .bool _) rfl rfl rfl) ?_
        refine xl_nil ?_
        refine xthen_normal ?_
        refine xc_cond_t rfl ?_
        refine xc_skip ?_
        refine xthen_normal ?_
        refine xc_seq ?_
        refine xc_block ?_
        refine xc_seq ?_
        have hfl : ((l.take i).filter (inR fk tk)).length ≤ i := Nat.le_trans (List.length_filter_le _ _) (by simp; omega)
        obtain ⟨ba, off, hae⟩ := (hR.ext hX).at
        have hkl := ky_len (hR.wide.get (show i < l.length by omega)) (by decide)
        refine xp_start rfl (by repeat (first | with_reducible exact np_fin | with_reducible refine np_then ?_ | with_reducible refine np_block ?_)) (by kernel_rfl) ?_
        refine xp_pure (i := 0) rfl (by kernel_rfl) (by kernel_rfl) rfl rfl rfl (pv_move (v := .slice _ _ _) rfl rfl) ?_
        refine xp_pure (i := 1) rfl (by kernel_rfl) (by kernel_rfl) rfl rfl rfl (pv_move (v := .int _ _) rfl rfl) ?_
        refine xp_pure (i := 2) rfl (by kernel_rfl) (by kernel_rfl) rfl rfl rfl (pv_indexAddr_l rfl (sl_eq (hae (by omega)).1) rfl (by omega)) ?_
        refine xp_pure (i := 3) rfl (by kernel_rfl) (by kernel_rfl) rfl rfl rfl (pv_fieldAddr rfl rfl) ?_
        refine xp_light (i := 4) rfl (by kernel_rfl) (by kernel_rfl) rfl rfl rfl (lv_load (v := .agg _) rfl rfl (by exact ld_rky (hae (by omega)).2 hR.wide (by decide) (by omega))) ?_
        refine xp_light (i := 5) rfl (by kernel_rfl) (by kernel_rfl) rfl rfl rfl (lv_load (v := .agg _) rfl rfl (by exact ld_ints m0_0 hf)) ?_
        refine xp_heavy (i := 6) (by kernel_rfl) ?_
        refine xph_val rfl rfl rfl rfl (hv_call (g := 9) rfl rfl (c9 (ky (gr l i)) fk hkl hf) rfl) (pd (by kernel_rfl) (pd (by kernel_rfl) pn)) ?_
        rintro v5_6 H5_6 ⟨rfl, hE5_6⟩
        have m0_0 := m0_0.ext hE5_6
        have m0_1 := m0_1.ext hE5_6
        have ho := ho.ext hE5_6
        have hX := hX.trans hE5_6
        have hXX := hE5_6
        refine ⟨okn, ?_⟩
        refine xp_dec (i := 7) rfl (by kernel_rfl) (by kernel_rfl) rfl rfl rfl (pv_geq rfl rfl rfl) (fun h5_7 => ?_) (fun h5_7 => ?_)
        · skip
          refine xp_pure (i := 8) rfl (by kernel_rfl) (by kernel_rfl) rfl rfl rfl (pv_move (v := .bool _) rfl rfl) ?_
          refine xp_pure (i := 9) rfl (by kernel_rfl) (by kernel_rfl) rfl rfl rfl (pv_move (v := .slice _ _ _) rfl rfl) ?_
          refine xp_pure (i := 10) rfl (by kernel_rfl) (by kernel_rfl) rfl rfl rfl (pv_move (v := .int _ _) rfl rfl) ?_
          refine xp_pure (i := 11) rfl (by kernel_rfl) (by kernel_rfl) rfl rfl rfl (pv_indexAddr_l rfl (sl_eq (hae (by omega)).1) rfl (by omega)) ?_
          refine xp_pure (i := 12) rfl (by kernel_rfl) (by kernel_rfl) rfl rfl rfl (pv_fieldAddr rfl rfl) ?_
          refine xp_light (i := 13) rfl (by kernel_rfl) (by kernel_rfl) rfl rfl rfl (lv_load (v := .agg _) rfl rfl (by exact ld_rky (l := l) (RowsAt.ext (hae (by omega)).2 (by assumption)) hR.wide (by decide) (by omega))) ?_
          refine xp_light (i := 14) rfl (by kernel_rfl) (by kernel_rfl) rfl rfl rfl (lv_load (v := .agg _) rfl rfl (by exact ld_ints m0_1 ht)) ?_
          refine xp_heavy (i := 15) (by kernel_rfl) ?_
          refine xph_val rfl rfl rfl rfl (hv_call (g := 9) rfl rfl (c9 (ky (gr l i)) tk hkl ht) rfl) (pd (by kernel_rfl) (pd (by kernel_rfl) pn)) ?_
          rintro v5_15 H5_15 ⟨rfl, hE5_15⟩
          have m0_0 := m0_0.ext hE5_15
          have m0_1 := m0_1.ext hE5_15
          have ho := ho.ext hE5_15
          have hX := hX.trans hE5_15
          have hXX := hXX.trans hE5_15
          refine ⟨okn, ?_⟩
          refine xp_dec (i := 16) rfl (by kernel_rfl) (by kernel_rfl) rfl rfl rfl (pv_lss rfl rfl rfl) (fun h5_16 => ?_) (fun h5_16 => ?_)
          · skip
            refine xp_pure (i := 17) rfl (by kernel_rfl) (by kernel_rfl) rfl rfl rfl (pv_pick_t (v := .bool _) rfl rfl rfl) ?_
            refine xp_done (by kernel_rfl) ?_
            refine xthen_normal ?_
            refine xc_cond_t rfl ?_
            have hin : inR fk tk (gr l i) = true := decide_eq_true ⟨by omega, by omega⟩
            refine xc_region ?_
            refine xl_pure rfl rfl rfl (pv_move (v := .slice _ _ _) rfl rfl) ?_
            refine xl_pure rfl rfl rfl (pv_move (v := .slice _ _ _) rfl rfl) ?_
            refine xl_pure rfl rfl rfl (pv_move (v := .int _ _) rfl rfl) ?_
            refine xl_pure rfl rfl rfl (pv_indexAddr_l rfl (sl_eq (hae (by omega)).1) rfl (by omega)) ?_
            refine xl_light rfl rfl rfl (lv_load (v := .agg _) rfl rfl (by exact ld_row' (RowsAt.ext (hae (by omega)).2 hXX) hR.wide (by omega))) ?_
            refine xl_heavy rfl rfl rfl (hv_buildSlice (cs := ints (gr l i)) rfl rfl (parts1 (ints_ten (hR.wide.get (by omega)))) rfl rfl) ?_
            rintro v6_5 H6_5 ⟨b6_5, rfl, hN6_5⟩
            have gb6_5 := hX.fresh hN6_5
            have nm0_0_6_5 := m0_0.apart hN6_5
            have nm0_1_6_5 := m0_1.apart hN6_5
            have pm6_5_ho := ho.apartN hN6_5
            have m0_0 := m0_0.ext hN6_5.ext
            have m0_1 := m0_1.ext hN6_5.ext
            have ho := ho.ext hN6_5.ext
            have hX := hX.trans hN6_5.ext
            have m6_5 := hN6_5.blk
            refine xl_heavy rfl rfl rfl (hv_append (size := 5) rfl rfl ho rfl m6_5.row (by simpa using ints_ten (hR.wide.get (by omega))) (ints_mem _) rfl (by decide) (by omega) (by omega) hX.size) ?_
            rintro v6_6 H6_6 ⟨hO6_6, hG6_6, -, hB6_6⟩
            have m0_0 := m0_0.offT ho hG6_6 rfl
            have m0_1 := m0_1.offT ho hG6_6 rfl
            have hX := ho.grown hX hG6_6 (Nat.le_refl _)
            obtain ⟨a6_6, c6_6, rfl⟩ := hO6_6.val
            refine xl_pure rfl rfl rfl (pv_assign (v := .slice _ _ _) rfl rfl) ?_
            refine xl_nil ?_
            refine xblock_normal ?_
            refine xthen_normal ?_
            refine xc_region ?_
            refine xl_pure rfl rfl rfl (pv_move (v := .int _ _) rfl rfl) ?_
            refine xl_pure rfl rfl rfl (pv_add rfl rfl rfl (fit_i64 (by omega))) ?_
            refine xl_pure rfl rfl rfl (pv_assign (v := .int _ _) rfl rfl) ?_
            refine xl_nil ?_
            refine xthen_normal ?_
            first
              | exact ⟨(i + 1, a6_6, c6_6), ⟨rfl, rfl, rfl, rfl, slv (by rw [flt_take (by omega), if_pos hin]; simp), rfl, trivial⟩, ⟨by (try simp only); omega, by rw [flt_take (by omega), if_pos hin]; simp; omega, m0_0, m0_1, by rw [flt_take (by omega), if_pos hin, fr_app]; simpa [fr] using hO6_6, hX⟩, by (try simp only); omega⟩
              | exact ⟨(i + 1, va, vc), ⟨rfl, rfl, rfl, rfl, slv (by rw [flt_take (by omega), if_neg (by rw [show inR fk tk (gr l i) = false from decide_eq_false (by omega)]; decide), List.append_nil]), rfl, trivial⟩, ⟨by (try simp only); omega, by rw [flt_take (by omega), if_neg (by rw [show inR fk tk (gr l i) = false from decide_eq_false (by omega)]; decide), List.append_nil]; exact hm, m0_0, m0_1, by rw [flt_take (by omega), if_neg (by rw [show inR fk tk (gr l i) = false from decide_eq_false (by omega)]; decide), List.append_nil]; exact ho, hX⟩, by (try simp only); omega⟩
          · skip
            refine xp_pure (i := 17) rfl (by kernel_rfl) (by kernel_rfl) rfl rfl rfl (pv_pick_t (v := .bool _) rfl rfl rfl) ?_
            refine xp_done (by kernel_rfl) ?_
            refine xthen_normal ?_
            refine xc_cond_f rfl ?_
            refine xc_skip ?_
            refine xblock_normal ?_
            refine xthen_normal ?_
            refine xc_region ?_
            refine xl_pure rfl rfl rfl (pv_move (v := .int _ _) rfl rfl) ?_
            refine xl_pure rfl rfl rfl (pv_add rfl rfl rfl (fit_i64 (by omega))) ?_
            refine xl_pure rfl rfl rfl (pv_assign (v := .int _ _) rfl rfl) ?_
            refine xl_nil ?_
            refine xthen_normal ?_
            first
              | exact ⟨(i + 1, a6_6, c6_6), ⟨rfl, rfl, rfl, rfl, slv (by rw [flt_take (by omega), if_pos hin]; simp), rfl, trivial⟩, ⟨by (try simp only); omega, by rw [flt_take (by omega), if_pos hin]; simp; omega, m0_0, m0_1, by rw [flt_take (by omega), if_pos hin, fr_app]; simpa [fr] using hO6_6, hX⟩, by (try simp only); omega⟩
              | exact ⟨(i + 1, va, vc), ⟨rfl, rfl, rfl, rfl, slv (by rw [flt_take (by omega), if_neg (by rw [show inR fk tk (gr l i) = false from decide_eq_false (by omega)]; decide), List.append_nil]), rfl, trivial⟩, ⟨by (try simp only); omega, by rw [flt_take (by omega), if_neg (by rw [show inR fk tk (gr l i) = false from decide_eq_false (by omega)]; decide), List.append_nil]; exact hm, m0_0, m0_1, by rw [flt_take (by omega), if_neg (by rw [show inR fk tk (gr l i) = false from decide_eq_false (by omega)]; decide), List.append_nil]; exact ho, hX⟩, by (try simp only); omega⟩
        · skip
          refine xp_pure (i := 8) rfl (by kernel_rfl) (by kernel_rfl) rfl rfl rfl (pv_move (v := .bool _) rfl rfl) ?_
          refine xp_skip (i := 9) rfl (by kernel_rfl) (by kernel_rfl) rfl rfl rfl ?_
          refine xp_skip (i := 10) rfl (by kernel_rfl) (by kernel_rfl) rfl rfl rfl ?_
          refine xp_skip (i := 11) rfl (by kernel_rfl) (by kernel_rfl) rfl rfl rfl ?_
          refine xp_skip (i := 12) rfl (by kernel_rfl) (by kernel_rfl) rfl rfl rfl ?_
          refine xp_skip (i := 13) rfl (by kernel_rfl) (by kernel_rfl) rfl rfl rfl ?_
          refine xp_skip (i := 14) rfl (by kernel_rfl) (by kernel_rfl) rfl rfl rfl ?_
          refine xp_skip (i := 15) rfl (by kernel_rfl) (by kernel_rfl) rfl rfl rfl ?_
          refine xp_skip (i := 16) rfl (by kernel_rfl) (by kernel_rfl) rfl rfl rfl ?_
          refine xp_pure (i := 17) rfl (by kernel_rfl) (by kernel_rfl) rfl rfl rfl (pv_pick_f (v := .bool _) rfl rfl rfl) ?_
          refine xp_done (by kernel_rfl) ?_
          refine xthen_normal ?_
          refine xc_cond_f rfl ?_
          refine xc_skip ?_
          refine xblock_normal ?_
          refine xthen_normal ?_
          refine xc_region ?_
          refine xl_pure rfl rfl rfl (pv_move (v := .int _ _) rfl rfl) ?_
          refine xl_pure rfl rfl rfl (pv_add rfl rfl rfl (fit_i64 (by omega))) ?_
          refine xl_pure rfl rfl rfl (pv_assign (v := .int _ _) rfl rfl) ?_
          refine xl_nil ?_
          refine xthen_normal ?_
          first
            | exact ⟨(i + 1, a6_6, c6_6), ⟨rfl, rfl, rfl, rfl, slv (by rw [flt_take (by omega), if_pos hin]; simp), rfl, trivial⟩, ⟨by (try simp only); omega, by rw [flt_take (by omega), if_pos hin]; simp; omega, m0_0, m0_1, by rw [flt_take (by omega), if_pos hin, fr_app]; simpa [fr] using hO6_6, hX⟩, by (try simp only); omega⟩
            | exact ⟨(i + 1, va, vc), ⟨rfl, rfl, rfl, rfl, slv (by rw [flt_take (by omega), if_neg (by rw [show inR fk tk (gr l i) = false from decide_eq_false (by omega)]; decide), List.append_nil]), rfl, trivial⟩, ⟨by (try simp only); omega, by rw [flt_take (by omega), if_neg (by rw [show inR fk tk (gr l i) = false from decide_eq_false (by omega)]; decide), List.append_nil]; exact hm, m0_0, m0_1, by rw [flt_take (by omega), if_neg (by rw [show inR fk tk (gr l i) = false from decide_eq_false (by omega)]; decide), List.append_nil]; exact ho, hX⟩, by (try simp only); omega⟩
      · skip
        refine xl_pure rfl rfl rfl (pv_pick_t (v := .bool _) rfl rfl rfl) ?_
        refine xl_nil ?_
        refine xthen_normal ?_
        refine xc_cond_f rfl ?_
        refine xc_exit ?_
        refine xthen_exit ?_
        refine xthen_exit ?_
        refine xblock_same ?_
        refine xthen_normal ?_
        refine xc_seq ?_
        refine xc_region ?_
        refine xl_pure rfl rfl rfl (pv_move (v := .slice _ _ _) rfl rfl) ?_
        refine xl_pure rfl rfl rfl (pv_assign (v := .slice _ _ _) rfl rfl) ?_
        refine xl_nil ?_
        refine xthen_normal ?_
        refine xc_ret ?_
        refine fin_ret (res1 (v := .slice _ _ _) rfl rfl) ?_
        exact ⟨va, vc, by rw [← flt_most (p := inR fk tk) (by omega) hm], by rw [← flt_most (p := inR fk tk) (by omega) hm]; exact own_rowsT (hR.wide.take.filter _) ho, hX⟩
    · skip
      refine xl_pure rfl rfl rfl (pv_move (v := .bool _) rfl rfl) ?_
      refine xl_skip rfl rfl rfl ?_
      refine xl_skip rfl rfl rfl ?_
      refine xl_skip rfl rfl rfl ?_
      refine xl_skip rfl rfl rfl ?_
      refine xl_pure rfl rfl rfl (pv_pick_f (v := .bool _) rfl rfl rfl) ?_
      refine xl_nil ?_
      refine xthen_normal ?_
      refine xc_cond_f rfl ?_
      refine xc_exit ?_
      refine xthen_exit ?_
      refine xthen_exit ?_
      refine xblock_same ?_
      refine xthen_normal ?_
      refine xc_seq ?_
      refine xc_region ?_
      refine xl_pure rfl rfl rfl (pv_move (v := .slice _ _ _) rfl rfl) ?_
      refine xl_pure rfl rfl rfl (pv_assign (v := .slice _ _ _) rfl rfl) ?_
      refine xl_nil ?_
      refine xthen_normal ?_
      refine xc_ret ?_
      refine fin_ret (res1 (v := .slice _ _ _) rfl rfl) ?_
      exact ⟨va, vc, by rw [← flt_most (p := inR fk tk) (by omega) hm], by rw [← flt_most (p := inR fk tk) (by omega) hm]; exact own_rowsT (hR.wide.take.filter _) ho, hX⟩

theorem c21 {O : Outer} {H : Heap} {a : Option Addr} {c : Nat} {l : List (List Int)} (hR : RowsT H 52 5 a l) (hl : l.length < 1099511627776) :
    FnC Try.prog 21 #[.slice a l.length c] O H (fun v H' => ∃ a' c', v = .slice a' l.length c' ∧ RowsT H' 23 4 a' (l.map ky) ∧ Ext H H') := by
  refine fn_enter (A := [.slice a l.length c]) Try.func21 rfl rfl ?_
  have hX := Ext.refl H
  refine xc_seq ?_
  refine xc_region ?_
  refine xl_pure rfl rfl rfl (pv_assign (v := .slice _ _ _) rfl rfl) ?_
  refine xl_nil ?_
  refine xthen_normal ?_
  refine xc_seq ?_
  refine xc_region ?_
  refine xl_pure rfl rfl rfl (pv_assign (v := .slice _ _ _) rfl rfl) ?_
  refine xl_nil ?_
  refine xthen_normal ?_
  refine xc_seq ?_
  refine xc_seq ?_
  refine xc_region ?_
  refine xl_pure rfl rfl rfl (pv_assign (v := .int _ _) rfl rfl) ?_
  refine xl_nil ?_
  refine xthen_normal ?_
  refine xc_block ?_
  refine xc_loop (τ := Nat × Option Addr × Nat) (fun t => [(0, .slice a l.length c), (3, .slice t.2.1 t.1 t.2.2), (4, .int .i64 (t.1 : Nat))]) (fun t H' => (t.1 ≤ l.length) ∧ (Own H' H.size 23 4 (.slice t.2.1 t.1 t.2.2) t.1 (fr ((l.take t.1).map ky))) ∧ (Ext H H')) (fun t H' => l.length - t.1) (0, none, 0) ?_ ?_ ?_
  · exact ⟨rfl, rfl, rfl, trivial⟩
  · skip
    exact ⟨Nat.zero_le _, Own.nil .., hX⟩
  · intro σ
    clear hX
    rintro ⟨i, va, vc⟩ Hl3 ⟨hi, ho, hX⟩
    replace hi : i ≤ l.length := hi
    replace ho : Own Hl3 H.size 23 4 (.slice va i vc) i (fr ((l.take i).map ky)) := ho
    replace hX : Ext H Hl3 := hX
    show XC _ _ _ (upds σ [(0, .slice a l.length c), (3, .slice va i vc), (4, .int .i64 (i : Nat))]) _
    refine xc_seq ?_
    refine xc_seq ?_
    refine xc_region ?_
    refine xl_pure rfl rfl rfl (pv_move (v := .int _ _) rfl rfl) ?_
    refine xl_pure rfl rfl rfl (pv_move (v := .slice _ _ _) rfl rfl) ?_
    refine xl_pure rfl rfl rfl (pv_len_l rfl rfl) ?_
    refine xl_dec rfl rfl rfl (pv_lss rfl rfl rfl) (fun h3_3 => ?_) (fun h3_3 => ?_)
    · skip
      refine xl_nil ?_
      refine xthen_normal ?_
      refine xc_cond_t rfl ?_
      refine xc_skip ?_
      refine xthen_normal ?_
      refine xc_seq ?_
      refine xc_block ?_
      obtain ⟨ba, off, hae⟩ := (hR.ext hX).at
      have hkl := ky_len (hR.wide.get (show i < l.length by omega)) (by decide)
      refine xc_region ?_
      refine xl_pure rfl rfl rfl (pv_move (v := .slice _ _ _) rfl rfl) ?_
      refine xl_pure rfl rfl rfl (pv_move (v := .slice _ _ _) rfl rfl) ?_
      refine xl_pure rfl rfl rfl (pv_move (v := .int _ _) rfl rfl) ?_
      refine xl_pure rfl rfl rfl (pv_indexAddr_l rfl (sl_eq (hae (by omega)).1) rfl (by omega)) ?_
      refine xl_pure rfl rfl rfl (pv_fieldAddr rfl rfl) ?_
      refine xl_light rfl rfl rfl (lv_load (v := .agg _) rfl rfl (by exact ld_rky (hae (by omega)).2 hR.wide (by decide) (by omega))) ?_
      refine xl_heavy rfl rfl rfl (hv_buildSlice (cs := ints (ky (gr l i))) rfl rfl (parts1 (ints_ten hkl)) rfl rfl) ?_
      rintro v5_6 H5_6 ⟨b5_6, rfl, hN5_6⟩
      have gb5_6 := hX.fresh hN5_6
      have pm5_6_ho := ho.apartN hN5_6
      have ho := ho.ext hN5_6.ext
      have hX := hX.trans hN5_6.ext
      have m5_6 := hN5_6.blk
      refine xl_heavy rfl rfl rfl (hv_append (size := 4) rfl rfl ho rfl m5_6.row (by simpa using ints_ten hkl) (ints_mem _) rfl (by decide) (by omega) (by omega) hX.size) ?_
      rintro v5_7 H5_7 ⟨hO5_7, hG5_7, -, hB5_7⟩
      have hX := ho.grown hX hG5_7 (Nat.le_refl _)
      obtain ⟨a5_7, c5_7, rfl⟩ := hO5_7.val
      refine xl_pure rfl rfl rfl (pv_assign (v := .slice _ _ _) rfl rfl) ?_
      refine xl_nil ?_
      refine xblock_normal ?_
      refine xthen_normal ?_
      refine xc_region ?_
      refine xl_pure rfl rfl rfl (pv_move (v := .int _ _) rfl rfl) ?_
      refine xl_pure rfl rfl rfl (pv_add rfl rfl rfl (fit_i64 (by omega))) ?_
      refine xl_pure rfl rfl rfl (pv_assign (v := .int _ _) rfl rfl) ?_
      refine xl_nil ?_
      refine xthen_normal ?_
      exact ⟨(i + 1, a5_7, c5_7), ⟨rfl, rfl, rfl, trivial⟩, ⟨by (try simp only); omega, by rw [frf_take ky (by omega)]; exact hO5_7, hX⟩, by (try simp only); omega⟩
    · skip
      refine xl_nil ?_
      refine xthen_normal ?_
      refine xc_cond_f rfl ?_
      refine xc_exit ?_
      refine xthen_exit ?_
      refine xthen_exit ?_
      refine xblock_same ?_
      refine xthen_normal ?_
      refine xc_seq ?_
      refine xc_region ?_
      refine xl_pure rfl rfl rfl (pv_move (v := .slice _ _ _) rfl rfl) ?_
      refine xl_pure rfl rfl rfl (pv_assign (v := .slice _ _ _) rfl rfl) ?_
      refine xl_nil ?_
      refine xthen_normal ?_
      refine xc_ret ?_
      refine fin_ret (res1 (v := .slice _ _ _) rfl rfl) ?_
      exact ⟨va, vc, by rw [show l.length = i by omega], own_rowsT (wide_ky hR.wide (by decide)) (by rw [show i = l.length by omega, List.take_length] at ho; simpa using ho), hX⟩
end Go.XG
