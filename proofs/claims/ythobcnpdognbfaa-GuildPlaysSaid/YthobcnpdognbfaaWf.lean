/-
  Walks of the seat's functions over the logic XG: each function, what it computes. Printed by a program out of wip/walks.py.
-/
import Derived.Test.YthobcnpdognbfaaI
import Derived.Test.YthobcnpdognbfaaM
import Derived.Test.YthobcnpdognbfaaWa
import Derived.Test.YthobcnpdognbfaaWb
import Derived.Test.YthobcnpdognbfaaWc
import Derived.Test.YthobcnpdognbfaaWd
import Derived.Test.YthobcnpdognbfaaWe
namespace Go.XG
open Go.Proofs
set_option maxRecDepth 4000
set_option maxHeartbeats 4000000
theorem rWithout {O : Outer} {H : Heap} {a : Option Addr} {c : Nat} {l : List (List Int)} (hs : Rows H a 2 l) (hm : MOk l) (ch : Int) :
    FnC Try.prog 48 #[.slice a l.length c, .int .i64 ch] O H (fun v H' => ∃ a' c', v = .slice a' (wo l ch).length c' ∧ RowsT H' 41 2 a' (wo l ch) ∧ Ext H H') := by
  have hl16 := mok_len hm
  refine fn_enter (A := [.slice a l.length c, .int .i64 ch]) Try.func48 rfl rfl ?_
  have hX := Ext.refl H
  refine xc_seq ?_
  refine xc_region ?_
  refine xl_pure rfl rfl rfl (pv_assign (v := .slice _ _ _) rfl rfl) ?_
  refine xl_nil ?_
  refine xthen_normal ?_
  refine xc_seq ?_
  refine xc_region ?_
  refine xl_pure rfl rfl rfl (pv_assign (v := .slice _ _ _) rfl rfl) ?_
  refine xl_nil ?_
  refine xthen_normal ?_
  refine xc_seq ?_
  refine xc_seq ?_
  refine xc_region ?_
  refine xl_pure rfl rfl rfl (pv_assign (v := .int _ _) rfl rfl) ?_
  refine xl_nil ?_
  refine xthen_normal ?_
  refine xc_block ?_
  refine xc_loop (τ := Nat × Option Addr × Nat) (fun t => [(0, .slice a l.length c), (1, .int .i64 ch), (5, .slice t.2.1 ((l.take t.1).filter (neC ch)).length t.2.2), (6, .int .i64 (t.1 : Nat))]) (fun t H' => (t.1 ≤ l.length) ∧ (Own H' H.size 41 2 (.slice t.2.1 ((l.take t.1).filter (neC ch)).length t.2.2) ((l.take t.1).filter (neC ch)).length (fr ((l.take t.1).filter (neC ch)))) ∧ (Ext H H')) (fun t H' => l.length - t.1) (0, none, 0) ?_ ?_ ?_
  · exact ⟨rfl, rfl, rfl, rfl, trivial⟩
  · skip
    exact ⟨Nat.zero_le _, by simpa [fr] using Own.nil _ H.size 41 2, hX⟩
  · intro σ
    clear hX
    rintro ⟨i, va, vc⟩ Hl3 ⟨hi, ho, hX⟩
    replace hi : i ≤ l.length := hi
    replace ho : Own Hl3 H.size 41 2 (.slice va ((l.take i).filter (neC ch)).length vc) ((l.take i).filter (neC ch)).length (fr ((l.take i).filter (neC ch))) := ho
    replace hX : Ext H Hl3 := hX
    obtain ⟨ba, off, hae⟩ := (hs.ext hX).at'
    have hfl : ((l.take i).filter (neC ch)).length ≤ i := Nat.le_trans (List.length_filter_le _ _) (by rw [List.length_take]; omega)
    show XC _ _ _ (upds σ [(0, .slice a l.length c), (1, .int .i64 ch), (5, .slice va ((l.take i).filter (neC ch)).length vc), (6, .int .i64 (i : Nat))]) _
    refine xc_seq ?_
    refine xc_seq ?_
    refine xc_region ?_
    refine xl_pure rfl rfl rfl (pv_move (v := .int _ _) rfl rfl) ?_
    refine xl_pure rfl rfl rfl (pv_move (v := .slice _ _ _) rfl rfl) ?_
    refine xl_pure rfl rfl rfl (pv_len_l rfl rfl) ?_
    refine xl_dec rfl rfl rfl (pv_lss rfl rfl rfl) (fun h3_3 => ?_) (fun h3_3 => ?_)
    · skip
      refine xl_nil ?_
      refine xthen_normal ?_
      refine xc_cond_t rfl ?_
      refine xc_skip ?_
      refine xthen_normal ?_
      refine xc_seq ?_
      refine xc_block ?_
      refine xc_seq ?_
      have hil : i < l.length := by omega
      have hr2 := hs.1.get hil
      refine xc_region ?_
      refine xl_pure rfl rfl rfl (pv_move (v := .slice _ _ _) rfl rfl) ?_
      refine xl_pure rfl rfl rfl (pv_move (v := .int _ _) rfl rfl) ?_
      refine xl_pure rfl rfl rfl (pv_indexAddr_l rfl (sl_eq (hae (by omega)).1) rfl (by omega)) ?_
      refine xl_pure rfl rfl rfl (pv_fieldAddr rfl rfl) ?_
      refine xl_light rfl rfl rfl (lv_load (v := .int _ _) rfl rfl (by exact ld_num (j := 0) (hae (by omega)).2 hs.1 (by omega) (by decide))) ?_
      refine xl_pure rfl rfl rfl (pv_move (v := .int _ _) rfl rfl) ?_
      refine xl_ndec rfl rfl rfl (pv_neq rfl rfl rfl) (fun h5_6 => ?_) (fun h5_6 => ?_)
      · skip
        refine xl_nil ?_
        refine xthen_normal ?_
        refine xc_cond_f rfl ?_
        refine xc_skip ?_
        refine xblock_normal ?_
        refine xthen_normal ?_
        refine xc_region ?_
        refine xl_pure rfl rfl rfl (pv_move (v := .int _ _) rfl rfl) ?_
        refine xl_pure rfl rfl rfl (pv_add rfl rfl rfl (fit_i64 (by omega))) ?_
        refine xl_pure rfl rfl rfl (pv_assign (v := .int _ _) rfl rfl) ?_
        refine xl_nil ?_
        refine xthen_normal ?_
        first
          | exact ⟨(i + 1, _, _), ⟨rfl, rfl, slv (by rw [fil_y hil h5_6]; simp), rfl, trivial⟩, ⟨by (try simp only); omega, by rw [fil_y hil h5_6]; simpa [fr_app, fr] using hO6_6, hX⟩, by (try simp only); omega⟩
          | exact ⟨(i + 1, _, _), ⟨rfl, rfl, slv (by rw [fil_n hil h5_6]), rfl, trivial⟩, ⟨by (try simp only); omega, by rw [fil_n hil h5_6]; exact ho, hX⟩, by (try simp only); omega⟩
      · skip
        refine xl_nil ?_
        refine xthen_normal ?_
        refine xc_cond_t rfl ?_
        refine xc_region ?_
        refine xl_pure rfl rfl rfl (pv_move (v := .slice _ _ _) rfl rfl) ?_
        refine xl_pure rfl rfl rfl (pv_move (v := .slice _ _ _) rfl rfl) ?_
        refine xl_pure rfl rfl rfl (pv_move (v := .int _ _) rfl rfl) ?_
        refine xl_pure rfl rfl rfl (pv_indexAddr_l rfl (sl_eq (hae (by omega)).1) rfl (by omega)) ?_
        refine xl_light rfl rfl rfl (lv_load (v := .agg _) rfl rfl (by exact ld_row' (hae (by omega)).2 hs.1 (by omega))) ?_
        refine xl_heavy rfl rfl rfl (hv_buildSlice (cs := ints (gr l i)) rfl rfl (parts1 (ints_ten hr2)) rfl rfl) ?_
        rintro v6_5 H6_5 ⟨b6_5, rfl, hN6_5⟩
        have gb6_5 := hX.fresh hN6_5
        have pm6_5_ho := ho.apartN hN6_5
        have ho := ho.ext hN6_5.ext
        have hX := hX.trans hN6_5.ext
        have m6_5 := hN6_5.blk
        refine xl_heavy rfl rfl rfl (hv_append (size := 2) rfl rfl ho rfl m6_5.row (by simpa using ints_ten hr2) (ints_mem _) rfl (by decide) (by omega) (by omega) hX.size) ?_
        rintro v6_6 H6_6 ⟨hO6_6, hG6_6, -, hB6_6⟩
        have hX := ho.grown hX hG6_6 (Nat.le_refl _)
        obtain ⟨a6_6, c6_6, rfl⟩ := hO6_6.val
        refine xl_pure rfl rfl rfl (pv_assign (v := .slice _ _ _) rfl rfl) ?_
        refine xl_nil ?_
        refine xblock_normal ?_
        refine xthen_normal ?_
        refine xc_region ?_
        refine xl_pure rfl rfl rfl (pv_move (v := .int _ _) rfl rfl) ?_
        refine xl_pure rfl rfl rfl (pv_add rfl rfl rfl (fit_i64 (by omega))) ?_
        refine xl_pure rfl rfl rfl (pv_assign (v := .int _ _) rfl rfl) ?_
        refine xl_nil ?_
        refine xthen_normal ?_
        first
          | exact ⟨(i + 1, _, _), ⟨rfl, rfl, slv (by rw [fil_y hil h5_6]; simp), rfl, trivial⟩, ⟨by (try simp only); omega, by rw [fil_y hil h5_6]; simpa [fr_app, fr] using hO6_6, hX⟩, by (try simp only); omega⟩
          | exact ⟨(i + 1, _, _), ⟨rfl, rfl, slv (by rw [fil_n hil h5_6]), rfl, trivial⟩, ⟨by (try simp only); omega, by rw [fil_n hil h5_6]; exact ho, hX⟩, by (try simp only); omega⟩
    · skip
      refine xl_nil ?_
      refine xthen_normal ?_
      refine xc_cond_f rfl ?_
      refine xc_exit ?_
      refine xthen_exit ?_
      refine xthen_exit ?_
      refine xblock_same ?_
      refine xthen_normal ?_
      refine xc_seq ?_
      refine xc_region ?_
      refine xl_pure rfl rfl rfl (pv_move (v := .slice _ _ _) rfl rfl) ?_
      refine xl_pure rfl rfl rfl (pv_assign (v := .slice _ _ _) rfl rfl) ?_
      refine xl_nil ?_
      refine xthen_normal ?_
      refine xc_ret ?_
      refine fin_ret (res1 (v := .slice _ _ _) rfl rfl) ?_
      obtain rfl : i = l.length := by omega
      rw [List.take_length, wo_filter hm] at ho
      exact ⟨va, vc, slv (by rw [List.take_length, wo_filter hm]), own_rowsT (mok_wo hm).wide ho, hX⟩

theorem rWith {O : Outer} {H : Heap} {a : Option Addr} {c : Nat} {l : List (List Int)} (hs : RowsT H 41 2 a l) (hm : MOk l) (q0 q1 : Int) (hh : hasM l q0 = false) :
    FnC Try.prog 47 #[.slice a l.length c, .agg #[.int .i64 q0, .int .i64 q1]] O H (fun v H' => ∃ a' c', v = .slice a' (putA l q0 q1).length c' ∧ RowsT H' 41 2 a' (putA l q0 q1) ∧ Ext H H') := by
  have hl16 := mok_len hm
  refine fn_enter (A := [.slice a l.length c, .agg #[.int .i64 q0, .int .i64 q1]]) Try.func47 rfl rfl ?_
  have hX := Ext.refl H
  refine xc_seq ?_
  refine xc_region ?_
  refine xl_heavy rfl rfl rfl (hv_box rfl rfl) ?_
  rintro v0_0 H0_0 ⟨b0_0, rfl, hN0_0⟩
  have gb0_0 := hX.fresh hN0_0
  have hX := hX.trans hN0_0.ext
  have m0_0 := hN0_0.blk
  refine xl_pure rfl rfl rfl (pv_assign (v := .slice _ _ _) rfl rfl) ?_
  refine xl_nil ?_
  refine xthen_normal ?_
  refine xc_seq ?_
  refine xc_region ?_
  refine xl_pure rfl rfl rfl (pv_assign (v := .slice _ _ _) rfl rfl) ?_
  refine xl_nil ?_
  refine xthen_normal ?_
  refine xc_seq ?_
  refine xc_region ?_
  refine xl_pure rfl rfl rfl (pv_assign (v := .bool _) rfl rfl) ?_
  refine xl_nil ?_
  refine xthen_normal ?_
  refine xc_seq ?_
  refine xc_seq ?_
  refine xc_region ?_
  refine xl_pure rfl rfl rfl (pv_assign (v := .int _ _) rfl rfl) ?_
  refine xl_nil ?_
  refine xthen_normal ?_
  refine xc_block ?_
  refine xc_loop (τ := Nat × Bool × List (List Int) × Option Addr × Nat) (fun t => [(0, .slice a l.length c), (3, .pointer (some ⟨b0_0, 0, none⟩)), (5, .slice t.2.2.2.1 t.2.2.1.length t.2.2.2.2), (6, .bool t.2.1), (7, .int .i64 (t.1 : Nat))]) (fun t H' => (t.1 ≤ l.length) ∧ (WithI l q0 q1 t.1 t.2.1 t.2.2.1) ∧ (Blk H' b0_0 [.int .i64 q0, .int .i64 q1] 41) ∧ (Own H' H.size 41 2 (.slice t.2.2.2.1 t.2.2.1.length t.2.2.2.2) t.2.2.1.length (fr t.2.2.1)) ∧ (OwnApart b0_0 (.slice t.2.2.2.1 t.2.2.1.length t.2.2.2.2)) ∧ (Ext H H')) (fun t H' => l.length - t.1) (0, false, [], none, 0) ?_ ?_ ?_
  · exact ⟨rfl, rfl, rfl, rfl, rfl, trivial⟩
  · skip
    exact ⟨Nat.zero_le _, with_start, m0_0, by simpa [fr] using Own.nil _ H.size 41 2, Own.apartNil, hX⟩
  · intro σ
    clear hX m0_0
    rintro ⟨i, dn, out, va, vc⟩ Hl4 ⟨hi, hI, m0_0, ho, po, hX⟩
    replace hi : i ≤ l.length := hi
    replace hI : WithI l q0 q1 i dn out := hI
    replace m0_0 : Blk Hl4 b0_0 [.int .i64 q0, .int .i64 q1] 41 := m0_0
    replace ho : Own Hl4 H.size 41 2 (.slice va out.length vc) out.length (fr out) := ho
    replace po : OwnApart b0_0 (.slice va out.length vc) := po
    replace hX : Ext H Hl4 := hX
    obtain ⟨ba, off, hae⟩ := (hs.rows.ext hX).at'
    have hol := hI.len hi
    have pm0_0_ho := po
    show XC _ _ _ (upds σ [(0, .slice a l.length c), (3, .pointer (some ⟨b0_0, 0, none⟩)), (5, .slice va out.length vc), (6, .bool dn), (7, .int .i64 (i : Nat))]) _
    refine xc_seq ?_
    refine xc_seq ?_
    refine xc_region ?_
    refine xl_pure rfl rfl rfl (pv_move (v := .int _ _) rfl rfl) ?_
    refine xl_pure rfl rfl rfl (pv_move (v := .slice _ _ _) rfl rfl) ?_
    refine xl_pure rfl rfl rfl (pv_len_l rfl rfl) ?_
    refine xl_dec rfl rfl rfl (pv_lss rfl rfl rfl) (fun h4_3 => ?_) (fun h4_3 => ?_)
    · skip
      refine xl_nil ?_
      refine xthen_normal ?_
      refine xc_cond_t rfl ?_
      refine xc_skip ?_
      refine xthen_normal ?_
      refine xc_seq ?_
      refine xc_block ?_
      refine xc_seq ?_
      refine xc_seq ?_
      have hil : i < l.length := by omega
      have hr2 := hs.wide.get hil
      refine xp_start rfl (by repeat (first | with_reducible exact np_fin | with_reducible exact np_ret | with_reducible refine np_then ?_ | with_reducible refine np_block ?_)) (by kernel_rfl) ?_
      refine xp_pure (i := 0) rfl (by kernel_rfl) (by kernel_rfl) rfl rfl rfl (pv_move (v := .bool _) rfl rfl) ?_
      cases dn
      · skip
        refine xp_pure (i := 1) rfl (by kernel_rfl) (by kernel_rfl) rfl rfl rfl (pv_not rfl rfl) ?_
        refine xp_pure (i := 2) rfl (by kernel_rfl) (by kernel_rfl) rfl rfl rfl (pv_move (v := .bool _) rfl rfl) ?_
        refine xp_pure (i := 3) rfl (by kernel_rfl) (by kernel_rfl) rfl rfl rfl (pv_fieldAddr rfl rfl) ?_
        refine xp_light (i := 4) rfl (by kernel_rfl) (by kernel_rfl) rfl rfl rfl (lv_load (v := .int _ _) rfl rfl (ld_blk m0_0 rfl)) ?_
        refine xp_pure (i := 5) rfl (by kernel_rfl) (by kernel_rfl) rfl rfl rfl (pv_move (v := .slice _ _ _) rfl rfl) ?_
        refine xp_pure (i := 6) rfl (by kernel_rfl) (by kernel_rfl) rfl rfl rfl (pv_move (v := .int _ _) rfl rfl) ?_
        refine xp_pure (i := 7) rfl (by kernel_rfl) (by kernel_rfl) rfl rfl rfl (pv_indexAddr_l rfl (sl_eq (hae (by omega)).1) rfl (by omega)) ?_
        refine xp_pure (i := 8) rfl (by kernel_rfl) (by kernel_rfl) rfl rfl rfl (pv_fieldAddr rfl rfl) ?_
        refine xp_light (i := 9) rfl (by kernel_rfl) (by kernel_rfl) rfl rfl rfl (lv_load (v := .int _ _) rfl rfl (by exact ld_num (j := 0) (hae (by omega)).2 hs.wide (by omega) (by decide))) ?_
        refine xp_dec (i := 10) rfl (by kernel_rfl) (by kernel_rfl) rfl rfl rfl (pv_lss rfl rfl rfl) (fun h6_10 => ?_) (fun h6_10 => ?_)
        · skip
          refine xp_pure (i := 11) rfl (by kernel_rfl) (by kernel_rfl) rfl rfl rfl (pv_pick_t (v := .bool _) rfl rfl rfl) ?_
          refine xp_done (by kernel_rfl) ?_
          refine xthen_normal ?_
          refine xc_cond_t rfl ?_
          refine xc_seq ?_
          refine xc_region ?_
          refine xl_pure rfl rfl rfl (pv_move (v := .slice _ _ _) rfl rfl) ?_
          refine xl_light rfl rfl rfl (lv_load (v := .agg _) rfl rfl (ld_blk_a m0_0 rfl rfl)) ?_
          refine xl_heavy rfl rfl rfl (hv_buildSlice (cs := [.int _ _, .int _ _]) rfl rfl rfl rfl rfl) ?_
          rintro v7_2 H7_2 ⟨b7_2, rfl, hN7_2⟩
          have gb7_2 := hX.fresh hN7_2
          have nm0_0_7_2 := m0_0.apart hN7_2
          have pm7_2_ho := ho.apartN hN7_2
          have m0_0 := m0_0.ext hN7_2.ext
          have ho := ho.ext hN7_2.ext
          have hX := hX.trans hN7_2.ext
          have m7_2 := hN7_2.blk
          refine xl_heavy rfl rfl rfl (hv_append (size := 2) rfl rfl ho rfl m7_2.row rfl (by simp [Value.oneCell']) rfl (by decide) (by omega) (by omega) hX.size) ?_
          rintro v7_3 H7_3 ⟨hO7_3, hG7_3, -, hB7_3⟩
          have lt_m0_0_7_3 := m0_0.lt
          have m0_0 := m0_0.offA hG7_3 (pm0_0_ho)
          have hX := ho.grown hX hG7_3 (Nat.le_refl _)
          have pm0_0_hO7_3 := OwnApart.grown pm0_0_ho hB7_3 (lt_m0_0_7_3)
          obtain ⟨a7_3, c7_3, rfl⟩ := hO7_3.val
          refine xl_pure rfl rfl rfl (pv_assign (v := .slice _ _ _) rfl rfl) ?_
          refine xl_nil ?_
          refine xthen_normal ?_
          refine xc_region ?_
          refine xl_pure rfl rfl rfl (pv_assign (v := .bool _) rfl rfl) ?_
          refine xl_nil ?_
          refine xthen_normal ?_
          obtain ⟨ba, off, hae⟩ := (hs.rows.ext hX).at'
          refine xc_region ?_
          refine xl_pure rfl rfl rfl (pv_move (v := .slice _ _ _) rfl rfl) ?_
          refine xl_pure rfl rfl rfl (pv_move (v := .slice _ _ _) rfl rfl) ?_
          refine xl_pure rfl rfl rfl (pv_move (v := .int _ _) rfl rfl) ?_
          refine xl_pure rfl rfl rfl (pv_indexAddr_l rfl (sl_eq (hae (by omega)).1) rfl (by omega)) ?_
          refine xl_light rfl rfl rfl (lv_load (v := .agg _) rfl rfl (by exact ld_row' (hae (by omega)).2 hs.wide (by omega))) ?_
          refine xl_heavy rfl rfl rfl (hv_buildSlice (cs := ints (gr l i)) rfl rfl (parts1 (ints_ten hr2)) rfl rfl) ?_
          rintro v9_5 H9_5 ⟨b9_5, rfl, hN9_5⟩
          have gb9_5 := hX.fresh hN9_5
          have nm0_0_9_5 := m0_0.apart hN9_5
          have pm9_5_hO7_3 := hO7_3.apartN hN9_5
          have m0_0 := m0_0.ext hN9_5.ext
          have hO7_3 := hO7_3.ext hN9_5.ext
          have hX := hX.trans hN9_5.ext
          have m9_5 := hN9_5.blk
          refine xl_heavy rfl rfl rfl (hv_append (size := 2) rfl rfl hO7_3 rfl m9_5.row (by simpa using ints_ten hr2) (ints_mem _) rfl (by decide) (by omega) (by omega) hX.size) ?_
          rintro v9_6 H9_6 ⟨hO9_6, hG9_6, -, hB9_6⟩
          have lt_m0_0_9_6 := m0_0.lt
          have m0_0 := m0_0.offA hG9_6 (pm0_0_hO7_3)
          have hX := hO7_3.grown hX hG9_6 (Nat.le_refl _)
          have pm0_0_hO9_6 := OwnApart.grown pm0_0_hO7_3 hB9_6 (lt_m0_0_9_6)
          obtain ⟨a9_6, c9_6, rfl⟩ := hO9_6.val
          refine xl_pure rfl rfl rfl (pv_assign (v := .slice _ _ _) rfl rfl) ?_
          refine xl_nil ?_
          refine xblock_normal ?_
          refine xthen_normal ?_
          refine xc_region ?_
          refine xl_pure rfl rfl rfl (pv_move (v := .int _ _) rfl rfl) ?_
          refine xl_pure rfl rfl rfl (pv_add rfl rfl rfl (fit_i64 (by omega))) ?_
          refine xl_pure rfl rfl rfl (pv_assign (v := .int _ _) rfl rfl) ?_
          refine xl_nil ?_
          refine xthen_normal ?_
          first
            | exact ⟨(i + 1, _, (out ++ [[q0, q1]] ++ [gr l i]), _, _), ⟨rfl, rfl, slv (by simp), rfl, rfl, trivial⟩, ⟨by (try simp only); omega, (hI.ins hm.srt hh hil rfl h6_10).row hm.srt hh hil (fun h => by cases h), m0_0, by simpa [fr_app, fr, ints] using hO9_6, by simpa using pm0_0_hO9_6, hX⟩, by (try simp only); omega⟩
            | exact ⟨(i + 1, _, (out ++ [gr l i]), _, _), ⟨rfl, rfl, slv (by simp), rfl, rfl, trivial⟩, ⟨by (try simp only); omega, hI.row hm.srt hh hil (by first | exact fun _ => h6_10 | exact fun h => by cases h), m0_0, by simpa [fr_app, fr, ints] using hO9_6, by simpa using pm0_0_hO9_6, hX⟩, by (try simp only); omega⟩
        · skip
          refine xp_pure (i := 11) rfl (by kernel_rfl) (by kernel_rfl) rfl rfl rfl (pv_pick_t (v := .bool _) rfl rfl rfl) ?_
          refine xp_done (by kernel_rfl) ?_
          refine xthen_normal ?_
          refine xc_cond_f rfl ?_
          refine xc_skip ?_
          refine xthen_normal ?_
          obtain ⟨ba, off, hae⟩ := (hs.rows.ext hX).at'
          refine xc_region ?_
          refine xl_pure rfl rfl rfl (pv_move (v := .slice _ _ _) rfl rfl) ?_
          refine xl_pure rfl rfl rfl (pv_move (v := .slice _ _ _) rfl rfl) ?_
          refine xl_pure rfl rfl rfl (pv_move (v := .int _ _) rfl rfl) ?_
          refine xl_pure rfl rfl rfl (pv_indexAddr_l rfl (sl_eq (hae (by omega)).1) rfl (by omega)) ?_
          refine xl_light rfl rfl rfl (lv_load (v := .agg _) rfl rfl (by exact ld_row' (hae (by omega)).2 hs.wide (by omega))) ?_
          refine xl_heavy rfl rfl rfl (hv_buildSlice (cs := ints (gr l i)) rfl rfl (parts1 (ints_ten hr2)) rfl rfl) ?_
          rintro v9_5 H9_5 ⟨b9_5, rfl, hN9_5⟩
          have gb9_5 := hX.fresh hN9_5
          have nm0_0_9_5 := m0_0.apart hN9_5
          have pm9_5_ho := ho.apartN hN9_5
          have m0_0 := m0_0.ext hN9_5.ext
          have ho := ho.ext hN9_5.ext
          have hX := hX.trans hN9_5.ext
          have m9_5 := hN9_5.blk
          refine xl_heavy rfl rfl rfl (hv_append (size := 2) rfl rfl ho rfl m9_5.row (by simpa using ints_ten hr2) (ints_mem _) rfl (by decide) (by omega) (by omega) hX.size) ?_
          rintro v9_6 H9_6 ⟨hO9_6, hG9_6, -, hB9_6⟩
          have lt_m0_0_9_6 := m0_0.lt
          have m0_0 := m0_0.offA hG9_6 (pm0_0_ho)
          have hX := ho.grown hX hG9_6 (Nat.le_refl _)
          have pm0_0_hO9_6 := OwnApart.grown pm0_0_ho hB9_6 (lt_m0_0_9_6)
          obtain ⟨a9_6, c9_6, rfl⟩ := hO9_6.val
          refine xl_pure rfl rfl rfl (pv_assign (v := .slice _ _ _) rfl rfl) ?_
          refine xl_nil ?_
          refine xblock_normal ?_
          refine xthen_normal ?_
          refine xc_region ?_
          refine xl_pure rfl rfl rfl (pv_move (v := .int _ _) rfl rfl) ?_
          refine xl_pure rfl rfl rfl (pv_add rfl rfl rfl (fit_i64 (by omega))) ?_
          refine xl_pure rfl rfl rfl (pv_assign (v := .int _ _) rfl rfl) ?_
          refine xl_nil ?_
          refine xthen_normal ?_
          first
            | exact ⟨(i + 1, _, (out ++ [[q0, q1]] ++ [gr l i]), _, _), ⟨rfl, rfl, slv (by simp), rfl, rfl, trivial⟩, ⟨by (try simp only); omega, (hI.ins hm.srt hh hil rfl h6_10).row hm.srt hh hil (fun h => by cases h), m0_0, by simpa [fr_app, fr, ints] using hO9_6, by simpa using pm0_0_hO9_6, hX⟩, by (try simp only); omega⟩
            | exact ⟨(i + 1, _, (out ++ [gr l i]), _, _), ⟨rfl, rfl, slv (by simp), rfl, rfl, trivial⟩, ⟨by (try simp only); omega, hI.row hm.srt hh hil (by first | exact fun _ => h6_10 | exact fun h => by cases h), m0_0, by simpa [fr_app, fr, ints] using hO9_6, by simpa using pm0_0_hO9_6, hX⟩, by (try simp only); omega⟩
      · skip
        refine xp_pure (i := 1) rfl (by kernel_rfl) (by kernel_rfl) rfl rfl rfl (pv_not rfl rfl) ?_
        refine xp_pure (i := 2) rfl (by kernel_rfl) (by kernel_rfl) rfl rfl rfl (pv_move (v := .bool _) rfl rfl) ?_
        refine xp_skip (i := 3) rfl (by kernel_rfl) (by kernel_rfl) rfl rfl rfl ?_
        refine xp_skip (i := 4) rfl (by kernel_rfl) (by kernel_rfl) rfl rfl rfl ?_
        refine xp_skip (i := 5) rfl (by kernel_rfl) (by kernel_rfl) rfl rfl rfl ?_
        refine xp_skip (i := 6) rfl (by kernel_rfl) (by kernel_rfl) rfl rfl rfl ?_
        refine xp_skip (i := 7) rfl (by kernel_rfl) (by kernel_rfl) rfl rfl rfl ?_
        refine xp_skip (i := 8) rfl (by kernel_rfl) (by kernel_rfl) rfl rfl rfl ?_
        refine xp_skip (i := 9) rfl (by kernel_rfl) (by kernel_rfl) rfl rfl rfl ?_
        refine xp_skip (i := 10) rfl (by kernel_rfl) (by kernel_rfl) rfl rfl rfl ?_
        refine xp_pure (i := 11) rfl (by kernel_rfl) (by kernel_rfl) rfl rfl rfl (pv_pick_f (v := .bool _) rfl rfl rfl) ?_
        refine xp_done (by kernel_rfl) ?_
        refine xthen_normal ?_
        refine xc_cond_f rfl ?_
        refine xc_skip ?_
        refine xthen_normal ?_
        obtain ⟨ba, off, hae⟩ := (hs.rows.ext hX).at'
        refine xc_region ?_
        refine xl_pure rfl rfl rfl (pv_move (v := .slice _ _ _) rfl rfl) ?_
        refine xl_pure rfl rfl rfl (pv_move (v := .slice _ _ _) rfl rfl) ?_
        refine xl_pure rfl rfl rfl (pv_move (v := .int _ _) rfl rfl) ?_
        refine xl_pure rfl rfl rfl (pv_indexAddr_l rfl (sl_eq (hae (by omega)).1) rfl (by omega)) ?_
        refine xl_light rfl rfl rfl (lv_load (v := .agg _) rfl rfl (by exact ld_row' (hae (by omega)).2 hs.wide (by omega))) ?_
        refine xl_heavy rfl rfl rfl (hv_buildSlice (cs := ints (gr l i)) rfl rfl (parts1 (ints_ten hr2)) rfl rfl) ?_
        rintro v9_5 H9_5 ⟨b9_5, rfl, hN9_5⟩
        have gb9_5 := hX.fresh hN9_5
        have nm0_0_9_5 := m0_0.apart hN9_5
        have pm9_5_ho := ho.apartN hN9_5
        have m0_0 := m0_0.ext hN9_5.ext
        have ho := ho.ext hN9_5.ext
        have hX := hX.trans hN9_5.ext
        have m9_5 := hN9_5.blk
        refine xl_heavy rfl rfl rfl (hv_append (size := 2) rfl rfl ho rfl m9_5.row (by simpa using ints_ten hr2) (ints_mem _) rfl (by decide) (by omega) (by omega) hX.size) ?_
        rintro v9_6 H9_6 ⟨hO9_6, hG9_6, -, hB9_6⟩
        have lt_m0_0_9_6 := m0_0.lt
        have m0_0 := m0_0.offA hG9_6 (pm0_0_ho)
        have hX := ho.grown hX hG9_6 (Nat.le_refl _)
        have pm0_0_hO9_6 := OwnApart.grown pm0_0_ho hB9_6 (lt_m0_0_9_6)
        obtain ⟨a9_6, c9_6, rfl⟩ := hO9_6.val
        refine xl_pure rfl rfl rfl (pv_assign (v := .slice _ _ _) rfl rfl) ?_
        refine xl_nil ?_
        refine xblock_normal ?_
        refine xthen_normal ?_
        refine xc_region ?_
        refine xl_pure rfl rfl rfl (pv_move (v := .int _ _) rfl rfl) ?_
        refine xl_pure rfl rfl rfl (pv_add rfl rfl rfl (fit_i64 (by omega))) ?_
        refine xl_pure rfl rfl rfl (pv_assign (v := .int _ _) rfl rfl) ?_
        refine xl_nil ?_
        refine xthen_normal ?_
        first
          | exact ⟨(i + 1, _, (out ++ [[q0, q1]] ++ [gr l i]), _, _), ⟨rfl, rfl, slv (by simp), rfl, rfl, trivial⟩, ⟨by (try simp only); omega, (hI.ins hm.srt hh hil rfl h6_10).row hm.srt hh hil (fun h => by cases h), m0_0, by simpa [fr_app, fr, ints] using hO9_6, by simpa using pm0_0_hO9_6, hX⟩, by (try simp only); omega⟩
          | exact ⟨(i + 1, _, (out ++ [gr l i]), _, _), ⟨rfl, rfl, slv (by simp), rfl, rfl, trivial⟩, ⟨by (try simp only); omega, hI.row hm.srt hh hil (by first | exact fun _ => h6_10 | exact fun h => by cases h), m0_0, by simpa [fr_app, fr, ints] using hO9_6, by simpa using pm0_0_hO9_6, hX⟩, by (try simp only); omega⟩
    · skip
      refine xl_nil ?_
      refine xthen_normal ?_
      refine xc_cond_f rfl ?_
      refine xc_exit ?_
      refine xthen_exit ?_
      refine xthen_exit ?_
      refine xblock_same ?_
      refine xthen_normal ?_
      refine xc_seq ?_
      refine xc_seq ?_
      obtain rfl : i = l.length := by omega
      refine xc_region ?_
      refine xl_pure rfl rfl rfl (pv_move (v := .bool _) rfl rfl) ?_
      cases dn
      · skip
        refine xl_pure rfl rfl rfl (pv_not rfl rfl) ?_
        refine xl_nil ?_
        refine xthen_normal ?_
        refine xc_cond_t rfl ?_
        refine xc_region ?_
        refine xl_pure rfl rfl rfl (pv_move (v := .slice _ _ _) rfl rfl) ?_
        refine xl_light rfl rfl rfl (lv_load (v := .agg _) rfl rfl (ld_blk_a m0_0 rfl rfl)) ?_
        refine xl_heavy rfl rfl rfl (hv_buildSlice (cs := [.int _ _, .int _ _]) rfl rfl rfl rfl rfl) ?_
        rintro v11_2 H11_2 ⟨b11_2, rfl, hN11_2⟩
        have gb11_2 := hX.fresh hN11_2
        have nm0_0_11_2 := m0_0.apart hN11_2
        have pm11_2_ho := ho.apartN hN11_2
        have m0_0 := m0_0.ext hN11_2.ext
        have ho := ho.ext hN11_2.ext
        have hX := hX.trans hN11_2.ext
        have m11_2 := hN11_2.blk
        refine xl_heavy rfl rfl rfl (hv_append (size := 2) rfl rfl ho rfl m11_2.row rfl (by simp [Value.oneCell']) rfl (by decide) (by omega) (by omega) hX.size) ?_
        rintro v11_3 H11_3 ⟨hO11_3, hG11_3, -, hB11_3⟩
        have lt_m0_0_11_3 := m0_0.lt
        have m0_0 := m0_0.offA hG11_3 (pm0_0_ho)
        have hX := ho.grown hX hG11_3 (Nat.le_refl _)
        have pm0_0_hO11_3 := OwnApart.grown pm0_0_ho hB11_3 (lt_m0_0_11_3)
        obtain ⟨a11_3, c11_3, rfl⟩ := hO11_3.val
        refine xl_pure rfl rfl rfl (pv_assign (v := .slice _ _ _) rfl rfl) ?_
        refine xl_nil ?_
        refine xthen_normal ?_
        refine xc_seq ?_
        refine xc_region ?_
        refine xl_pure rfl rfl rfl (pv_move (v := .slice _ _ _) rfl rfl) ?_
        refine xl_pure rfl rfl rfl (pv_assign (v := .slice _ _ _) rfl rfl) ?_
        refine xl_nil ?_
        refine xthen_normal ?_
        refine xc_ret ?_
        refine fin_ret (res1 (v := .slice _ _ _) rfl rfl) ?_
        have hdn := hI.done hh
        have hwo := hI.wide hm.wide
        first
          | (rw [if_pos rfl] at hdn; exact ⟨a11_3, c11_3, slv (by rw [← hdn]; simp), by rw [← hdn]; exact own_rowsT (hwo.app fun r hr => by rw [List.mem_singleton] at hr; rw [hr]; rfl) (by simpa [fr_app, fr, ints] using hO11_3), hX⟩)
          | (rw [if_neg (by decide)] at hdn; exact ⟨va, vc, slv (by rw [← hdn]), by rw [← hdn]; exact own_rowsT hwo ho, hX⟩)
      · skip
        refine xl_pure rfl rfl rfl (pv_not rfl rfl) ?_
        refine xl_nil ?_
        refine xthen_normal ?_
        refine xc_cond_f rfl ?_
        refine xc_skip ?_
        refine xthen_normal ?_
        refine xc_seq ?_
        refine xc_region ?_
        refine xl_pure rfl rfl rfl (pv_move (v := .slice _ _ _) rfl rfl) ?_
        refine xl_pure rfl rfl rfl (pv_assign (v := .slice _ _ _) rfl rfl) ?_
        refine xl_nil ?_
        refine xthen_normal ?_
        refine xc_ret ?_
        refine fin_ret (res1 (v := .slice _ _ _) rfl rfl) ?_
        have hdn := hI.done hh
        have hwo := hI.wide hm.wide
        first
          | (rw [if_pos rfl] at hdn; exact ⟨a11_3, c11_3, slv (by rw [← hdn]; simp), by rw [← hdn]; exact own_rowsT (hwo.app fun r hr => by rw [List.mem_singleton] at hr; rw [hr]; rfl) (by simpa [fr_app, fr, ints] using hO11_3), hX⟩)
          | (rw [if_neg (by decide)] at hdn; exact ⟨va, vc, slv (by rw [← hdn]), by rw [← hdn]; exact own_rowsT hwo ho, hX⟩)

theorem rSet {O : Outer} {H : Heap} {a : Option Addr} {c B0 : Nat} {X : List (List (List Int))} (hD : DK H B0 a (tg X)) (hG : GOk X) (hc : X.length ≤ c) (k : Nat) (hk : k < X.length) {am : Option Addr} {n cm : Nat} {l : List (List Int)} (hn : l.length = n) (hQ : RowsT H 41 2 am l) (hml : MOk l) :
    FnC Try.prog 46 #[.slice a X.length c, .int .i64 (k : Nat), .slice am n cm] O H (fun v H' => ∃ a' c', v = .tuple #[.slice a' X.length c', .int .i64 (setE l)] ∧ DK H' B0 a' (tg (if setE l = 0 then X.set k l else X)) ∧ X.length ≤ c' ∧ Ext H H') := by
  have h4 := hG.len
  obtain ⟨E, hE, hEr⟩ := hD.em
  have hEl : E.length = X.length := by rw [hE.1, tg_len]
  have hone := ecs_one hE
  have hl16 := mok_len hml
  have hledd := led_same (fun r hr => (hml.ok r hr).2)
  refine fn_enter (A := [.slice a X.length c, .int .i64 (k : Nat), .slice am n cm]) Try.func46 rfl rfl ?_
  have hX := Ext.refl H
  refine xc_seq ?_
  refine xc_region ?_
  refine xl_pure rfl rfl rfl (pv_assign (v := .slice _ _ _) rfl rfl) ?_
  refine xl_pure rfl rfl rfl (pv_assign (v := .int _ _) rfl rfl) ?_
  refine xl_nil ?_
  refine xthen_normal ?_
  refine xc_seq ?_
  refine xc_seq ?_
  refine xc_region ?_
  refine xl_pure rfl rfl rfl (pv_move (v := .slice _ _ _) rfl rfl) ?_
  refine xl_heavy rfl rfl rfl (hv_call (g := 31) rfl rfl (rLed2 hn hQ.rows (by omega)) rfl) ?_
  rintro v1_1 H1_1 ⟨hv1_1, rfl⟩
  rcases hl1_1 : ledD l with _ | _
  · skip
    rw [hl1_1] at hv1_1
    subst hv1_1
    refine xl_pure rfl rfl rfl (pv_not rfl rfl) ?_
    refine xl_nil ?_
    refine xthen_normal ?_
    refine xc_cond_t rfl ?_
    refine xc_seq ?_
    refine xc_region ?_
    refine xl_pure rfl rfl rfl (pv_move (v := .slice _ _ _) rfl rfl) ?_
    refine xl_pure rfl rfl rfl (pv_assign (v := .slice _ _ _) rfl rfl) ?_
    refine xl_pure rfl rfl rfl (pv_assign (v := .int _ _) rfl rfl) ?_
    refine xl_nil ?_
    refine xthen_normal ?_
    refine xc_ret ?_
    refine xthen_ret ?_
    refine fin_ret (res2 (v := .slice _ _ _) (x := .int _ _) rfl rfl rfl) ?_
    have e : setE l = 9 := if_neg (by rw [← hledd, hl1_1]; decide); exact ⟨a, c, by rw [e], by rw [e]; exact hD.ext hX, hc, hX⟩
  · skip
    rw [hl1_1] at hv1_1
    subst hv1_1
    refine xl_pure rfl rfl rfl (pv_not rfl rfl) ?_
    refine xl_nil ?_
    refine xthen_normal ?_
    refine xc_cond_f rfl ?_
    refine xc_skip ?_
    refine xthen_normal ?_
    refine xc_seq ?_
    refine xc_region ?_
    refine xl_pure rfl rfl rfl (pv_assign (v := .slice _ _ _) rfl rfl) ?_
    refine xl_nil ?_
    refine xthen_normal ?_
    refine xc_seq ?_
    obtain ⟨dg0, do0, hda0, hEr0⟩ := hEr.resolve_left (by rw [tg_len]; omega)
    refine xc_region ?_
    refine xl_pure rfl rfl rfl (pv_move (v := .slice _ _ _) rfl rfl) ?_
    refine xl_pure rfl rfl rfl (pv_move (v := .slice _ _ _) rfl rfl) ?_
    refine xl_pure rfl rfl rfl (pv_move (v := .int _ _) rfl rfl) ?_
    refine xl_pure rfl rfl rfl (pv_slice_l rfl rfl (.none _) (.some rfl (by omega)) (.none _) (by omega) (by simp)) ?_
    refine xl_heavy rfl rfl rfl (hv_append_cells (size := 2) (ya := cutA a 0 c 2) (m := k) (c := c) (news := ecs (E.take k)) rfl rfl (Own.nil _ H.size 39 2) rfl (by rw [ecs_len, List.length_take]; omega) (.inr ⟨dg0, do0, by rw [cutA_0]; exact hda0, row_ext' (ecs_takeR hEr0 k) hX⟩) (fun u hu => hone u (ecs_takeM hu)) rfl (by decide) (by omega) (by omega) hX.size) ?_
    rintro v4_4 H4_4 ⟨hO4_4, hG4_4⟩
    have hQ := hQ.growT (Own.nil _ H.size 39 2) hG4_4 rfl
    have hX := Own.grown ((Own.nil _ H.size 39 2)) hX hG4_4 (Nat.le_refl _)
    obtain ⟨a4_4, c4_4, rfl⟩ := hO4_4.val
    refine xl_pure rfl rfl rfl (pv_assign (v := .slice _ _ _) rfl rfl) ?_
    refine xl_nil ?_
    refine xthen_normal ?_
    refine xc_seq ?_
    obtain ⟨dg, do_, hde⟩ := (hD.ext hX).at'
    obtain ⟨aj, cj, -, -, hl1, -⟩ := ld_d (hde (by rw [tg_len]; omega)).2 (show k < (tg X).length by rw [tg_len]; omega)
    rw [tg_get (by omega)] at hl1
    dsimp only at hl1
    refine xc_region ?_
    refine xl_pure rfl rfl rfl (pv_move (v := .slice _ _ _) rfl rfl) ?_
    refine xl_pure rfl rfl rfl (pv_move (v := .slice _ _ _) rfl rfl) ?_
    refine xl_pure rfl rfl rfl (pv_move (v := .int _ _) rfl rfl) ?_
    refine xl_pure rfl rfl rfl (pv_indexAddr_l rfl (sl_eq (hde (by rw [tg_len]; omega)).1) rfl (by omega)) ?_
    refine xl_pure rfl rfl rfl (pv_fieldAddr rfl rfl) ?_
    refine xl_light rfl rfl rfl (lv_load (v := .int _ _) rfl rfl (by exact hl1)) ?_
    refine xl_pure rfl rfl rfl (pv_move (v := .slice _ _ _) rfl rfl) ?_
    refine xl_pure rfl rfl rfl (pv_build_s (cs := [.int _ _, .slice _ _ _]) rfl rfl rfl) ?_
    refine xl_heavy rfl rfl rfl (hv_buildSlice (cs := [.int _ _, .slice _ _ _]) rfl rfl rfl rfl rfl) ?_
    rintro v5_8 H5_8 ⟨b5_8, rfl, hN5_8⟩
    have gb5_8 := hX.fresh hN5_8
    have pm5_8_hO4_4 := hO4_4.apartN hN5_8
    have hQ := hQ.ext hN5_8.ext
    have hO4_4 := hO4_4.ext hN5_8.ext
    have hX := hX.trans hN5_8.ext
    have m5_8 := hN5_8.blk
    refine xl_heavy rfl rfl rfl (hv_append (size := 2) rfl rfl hO4_4 rfl m5_8.row rfl (by simp [Value.oneCell']) rfl (by decide) (by omega) (by omega) hX.size) ?_
    rintro v5_9 H5_9 ⟨hO5_9, hG5_9, -, hB5_9⟩
    have hQ := hQ.growT hO4_4 hG5_9 (by first | rfl | assumption)
    have hX := hO4_4.grown hX hG5_9 (Nat.le_refl _)
    obtain ⟨a5_9, c5_9, rfl⟩ := hO5_9.val
    refine xl_pure rfl rfl rfl (pv_assign (v := .slice _ _ _) rfl rfl) ?_
    refine xl_nil ?_
    refine xthen_normal ?_
    refine xc_seq ?_
    refine xc_region ?_
    refine xl_pure rfl rfl rfl (pv_move (v := .slice _ _ _) rfl rfl) ?_
    refine xl_pure rfl rfl rfl (pv_move (v := .slice _ _ _) rfl rfl) ?_
    refine xl_pure rfl rfl rfl (pv_move (v := .int _ _) rfl rfl) ?_
    refine xl_pure rfl rfl rfl (pv_add rfl rfl rfl (fit_i64 (by omega))) ?_
    refine xl_pure rfl rfl rfl (pv_slice_l rfl rfl (.none _) (.none _) (.some rfl (by omega)) (by omega) (by simp)) ?_
    refine xl_heavy rfl rfl rfl (hv_append_cells (size := 2) (ya := cutA a (k + 1) c 2) (m := X.length - (k + 1)) (c := c - (k + 1)) (news := ecs (E.drop (k + 1))) rfl rfl hO5_9 rfl (by rw [ecs_len, List.length_drop]; omega) (by by_cases hz : X.length - (k + 1) = 0; exact .inl hz; exact .inr (cut_row hda0 (by omega) (row_ext' (ecs_dropR hEr0 (by omega)) hX))) (fun u hu => hone u (ecs_dropM hu)) rfl (by decide) (by omega) (by omega) hX.size) ?_
    rintro v6_5 H6_5 ⟨hO6_5, hG6_5⟩
    have hQ := hQ.growT hO5_9 hG6_5 rfl
    have hX := Own.grown (hO5_9) hX hG6_5 (Nat.le_refl _)
    obtain ⟨a6_5, c6_5, rfl⟩ := hO6_5.val
    refine xl_pure rfl rfl rfl (pv_assign (v := .slice _ _ _) rfl rfl) ?_
    refine xl_nil ?_
    refine xthen_normal ?_
    refine xc_seq ?_
    refine xc_region ?_
    refine xl_pure rfl rfl rfl (pv_move (v := .slice _ _ _) rfl rfl) ?_
    refine xl_pure rfl rfl rfl (pv_assign (v := .slice _ _ _) rfl rfl) ?_
    refine xl_pure rfl rfl rfl (pv_assign (v := .int _ _) rfl rfl) ?_
    refine xl_nil ?_
    refine xthen_normal ?_
    refine xc_ret ?_
    refine fin_ret (res2 (v := .slice _ _ _) (x := .int _ _) rfl rfl rfl) ?_
    have e : setE l = 0 := if_pos (by rw [← hledd, hl1_1])
    have hle := own_le hO6_5
    exact ⟨a6_5, c6_5, by rw [e]; exact tupl (by omega), by rw [e]; exact set_DK (cm := cm) hk (hE.ext hX) (by rw [hn]; exact hO6_5) hQ, by omega, hX⟩

theorem rFound {O : Outer} {H : Heap} {a : Option Addr} {c B0 : Nat} {X : List (List (List Int))} (hD : DK H B0 a (tg X)) (hG : GOk X) (hc : X.length ≤ c) (ch : Int) :
    FnC Try.prog 34 #[.slice a X.length c, .int .i64 ch] O H (fun v H' => ∃ a' c', v = .tuple #[.slice a' (fouX X ch).length c', .int .i64 (fouN X ch), .int .i64 (fouE X ch)] ∧ DK H' B0 a' (tg (fouX X ch)) ∧ (fouX X ch).length ≤ c' ∧ Ext H H') := by
  have h4 := hG.len
  obtain ⟨E, hE, hEr⟩ := hD.em
  have hEl : E.length = X.length := by rw [hE.1, tg_len]
  have hone := ecs_one hE
  refine fn_enter (A := [.slice a X.length c, .int .i64 ch]) Try.func34 rfl rfl ?_
  have hX := Ext.refl H
  refine xc_seq ?_
  refine xc_region ?_
  refine xl_pure rfl rfl rfl (pv_assign (v := .slice _ _ _) rfl rfl) ?_
  refine xl_pure rfl rfl rfl (pv_assign (v := .int _ _) rfl rfl) ?_
  refine xl_pure rfl rfl rfl (pv_assign (v := .int _ _) rfl rfl) ?_
  refine xl_nil ?_
  refine xthen_normal ?_
  refine xc_seq ?_
  refine xc_seq ?_
  refine xc_region ?_
  refine xl_pure rfl rfl rfl (pv_move (v := .int _ _) rfl rfl) ?_
  refine xl_heavy rfl rfl rfl (hv_call (g := 32) rfl rfl (rIsChar ch) rfl) ?_
  rintro v1_1 H1_1 ⟨hv1_1, rfl⟩
  rcases hv1_1 with ⟨hi1_1, rfl⟩ | ⟨hi1_1, rfl⟩
  · skip
    refine xl_pure rfl rfl rfl (pv_not rfl rfl) ?_
    refine xl_nil ?_
    refine xthen_normal ?_
    refine xc_cond_f rfl ?_
    refine xc_skip ?_
    refine xthen_normal ?_
    refine xc_seq ?_
    refine xc_seq ?_
    refine xc_region ?_
    refine xl_pure rfl rfl rfl (pv_move (v := .slice _ _ _) rfl rfl) ?_
    refine xl_pure rfl rfl rfl (pv_len_l rfl rfl) ?_
    refine xl_dec rfl rfl rfl (pv_geq rfl rfl rfl) (fun h3_2 => ?_) (fun h3_2 => ?_)
    · skip
      refine xl_nil ?_
      refine xthen_normal ?_
      refine xc_cond_t rfl ?_
      refine xc_seq ?_
      refine xc_region ?_
      refine xl_pure rfl rfl rfl (pv_move (v := .slice _ _ _) rfl rfl) ?_
      refine xl_pure rfl rfl rfl (pv_assign (v := .slice _ _ _) rfl rfl) ?_
      refine xl_pure rfl rfl rfl (pv_assign (v := .int _ _) rfl rfl) ?_
      refine xl_pure rfl rfl rfl (pv_assign (v := .int _ _) rfl rfl) ?_
      refine xl_nil ?_
      refine xthen_normal ?_
      refine xc_ret ?_
      refine xthen_ret ?_
      refine fin_ret (res3 (v := .slice _ _ _) (x := .int _ _) (y := .int _ _) rfl rfl rfl rfl) ?_
      obtain ⟨e1, e2, e3⟩ := fou_full (X := X) hi1_1 (by omega); exact ⟨a, c, by rw [e1, e2, e3], by rw [e3]; exact hD.ext hX, by rw [e3]; exact hc, hX⟩
    · skip
      refine xl_nil ?_
      refine xthen_normal ?_
      refine xc_cond_f rfl ?_
      refine xc_skip ?_
      refine xthen_normal ?_
      refine xc_seq ?_
      refine xc_region ?_
      refine xl_pure rfl rfl rfl (pv_move (v := .slice _ _ _) rfl rfl) ?_
      refine xl_pure rfl rfl rfl (pv_len_l rfl rfl) ?_
      refine xl_pure rfl rfl rfl (pv_add rfl rfl rfl (fit_i64 (by omega))) ?_
      refine xl_pure rfl rfl rfl (pv_assign (v := .int _ _) rfl rfl) ?_
      refine xl_nil ?_
      refine xthen_normal ?_
      refine xc_seq ?_
      refine xc_region ?_
      refine xl_pure rfl rfl rfl (pv_assign (v := .slice _ _ _) rfl rfl) ?_
      refine xl_nil ?_
      refine xthen_normal ?_
      refine xc_seq ?_
      refine xc_region ?_
      refine xl_pure rfl rfl rfl (pv_move (v := .slice _ _ _) rfl rfl) ?_
      refine xl_pure rfl rfl rfl (pv_move (v := .slice _ _ _) rfl rfl) ?_
      refine xl_heavy rfl rfl rfl (hv_append_cells (size := 2) (ya := a) (m := X.length) (c := c) (news := ecs E) rfl rfl (Own.nil _ H.size 39 2) rfl (by rw [ecs_len]; omega) (hEr.imp (fun h => by rw [tg_len] at h; exact h) (fun ⟨g, o, h1, h2⟩ => ⟨g, o, h1, row_ext' h2 hX⟩)) hone rfl (by decide) (by omega) (by omega) hX.size) ?_
      rintro v7_2 H7_2 ⟨hO7_2, hG7_2⟩
      have hX := Own.grown ((Own.nil _ H.size 39 2)) hX hG7_2 (Nat.le_refl _)
      obtain ⟨a7_2, c7_2, rfl⟩ := hO7_2.val
      refine xl_pure rfl rfl rfl (pv_assign (v := .slice _ _ _) rfl rfl) ?_
      refine xl_nil ?_
      refine xthen_normal ?_
      refine xc_seq ?_
      refine xc_region ?_
      refine xl_pure rfl rfl rfl (pv_move (v := .slice _ _ _) rfl rfl) ?_
      refine xl_pure rfl rfl rfl (pv_move (v := .int _ _) rfl rfl) ?_
      refine xl_pure rfl rfl rfl (pv_move (v := .int _ _) rfl rfl) ?_
      refine xl_pure rfl rfl rfl (pv_build_s (cs := [.int _ _, .int _ _]) rfl rfl rfl) ?_
      refine xl_heavy rfl rfl rfl (hv_buildSlice (cs := [.int _ _, .int _ _]) rfl rfl rfl rfl rfl) ?_
      rintro v8_4 H8_4 ⟨b8_4, rfl, hN8_4⟩
      have gb8_4 := hX.fresh hN8_4
      have hO7_2 := hO7_2.ext hN8_4.ext
      have hX := hX.trans hN8_4.ext
      have m8_4 := hN8_4.blk
      refine xl_pure rfl rfl rfl (pv_build_s (cs := [.int _ _, .slice _ _ _]) rfl rfl rfl) ?_
      refine xl_heavy rfl rfl rfl (hv_buildSlice (cs := [.int _ _, .slice _ _ _]) rfl rfl rfl rfl rfl) ?_
      rintro v8_6 H8_6 ⟨b8_6, rfl, hN8_6⟩
      have gb8_6 := hX.fresh hN8_6
      have pm8_6_hO7_2 := hO7_2.apartN hN8_6
      have nm8_4_8_6 := m8_4.apart hN8_6
      have hO7_2 := hO7_2.ext hN8_6.ext
      have m8_4 := m8_4.ext hN8_6.ext
      have hX := hX.trans hN8_6.ext
      have m8_6 := hN8_6.blk
      refine xl_heavy rfl rfl rfl (hv_append (size := 2) rfl rfl hO7_2 rfl m8_6.row rfl (by simp [Value.oneCell']) rfl (by decide) (by omega) (by omega) hX.size) ?_
      rintro v8_7 H8_7 ⟨hO8_7, hG8_7, -, hB8_7⟩
      have m8_4 := m8_4.offT hO7_2 hG8_7 rfl
      have hX := Own.grown (hO7_2) hX hG8_7 (Nat.le_refl _)
      obtain ⟨a8_7, c8_7, rfl⟩ := hO8_7.val
      refine xl_pure rfl rfl rfl (pv_assign (v := .slice _ _ _) rfl rfl) ?_
      refine xl_nil ?_
      refine xthen_normal ?_
      refine xc_seq ?_
      refine xc_region ?_
      refine xl_pure rfl rfl rfl (pv_move (v := .slice _ _ _) rfl rfl) ?_
      refine xl_pure rfl rfl rfl (pv_move (v := .int _ _) rfl rfl) ?_
      refine xl_pure rfl rfl rfl (pv_assign (v := .slice _ _ _) rfl rfl) ?_
      refine xl_pure rfl rfl rfl (pv_assign (v := .int _ _) rfl rfl) ?_
      refine xl_pure rfl rfl rfl (pv_assign (v := .int _ _) rfl rfl) ?_
      refine xl_nil ?_
      refine xthen_normal ?_
      refine xc_ret ?_
      refine fin_ret (res3 (v := .slice _ _ _) (x := .int _ _) (y := .int _ _) rfl rfl rfl rfl) ?_
      obtain ⟨e1, e2, e3⟩ := fou_ok (X := X) hi1_1 (by omega)
      have hle := own_le hO8_7
      have hrow := blk_rowsT (k := 2) (l := [[ch, 1]]) (ex := []) m8_4 (fun r hr => by rw [List.mem_singleton] at hr; rw [hr]; rfl)
      exact ⟨a8_7, c8_7, by rw [e1, e2, e3]; exact tupl3 (by rw [List.length_append]; show _ = X.length + 1; omega) rfl, by rw [e3]; exact fou_DK (cm := 1) (hE.ext hX) hO8_7 hrow, by rw [e3, List.length_append]; show X.length + 1 ≤ _; omega, hX⟩
  · skip
    refine xl_pure rfl rfl rfl (pv_not rfl rfl) ?_
    refine xl_nil ?_
    refine xthen_normal ?_
    refine xc_cond_t rfl ?_
    refine xc_seq ?_
    refine xc_region ?_
    refine xl_pure rfl rfl rfl (pv_move (v := .slice _ _ _) rfl rfl) ?_
    refine xl_pure rfl rfl rfl (pv_assign (v := .slice _ _ _) rfl rfl) ?_
    refine xl_pure rfl rfl rfl (pv_assign (v := .int _ _) rfl rfl) ?_
    refine xl_pure rfl rfl rfl (pv_assign (v := .int _ _) rfl rfl) ?_
    refine xl_nil ?_
    refine xthen_normal ?_
    refine xc_ret ?_
    refine xthen_ret ?_
    refine fin_ret (res3 (v := .slice _ _ _) (x := .int _ _) (y := .int _ _) rfl rfl rfl rfl) ?_
    obtain ⟨e1, e2, e3⟩ := fou_arg (X := X) hi1_1; exact ⟨a, c, by rw [e1, e2, e3], by rw [e3]; exact hD.ext hX, by rw [e3]; exact hc, hX⟩

theorem rEnrol {O : Outer} {H : Heap} {a : Option Addr} {c B0 : Nat} {X : List (List (List Int))} (hD : DK H B0 a (tg X)) (hG : GOk X) (hc : X.length ≤ c) (id ch r : Int) :
    FnC Try.prog 35 #[.slice a X.length c, .int .i64 id, .int .i64 ch, .int .i64 r] O H (fun v H' => ∃ a' c', v = .tuple #[.slice a' (enrX X id ch r).length c', .int .i64 (enrE X id ch r)] ∧ DK H' B0 a' (tg (enrX X id ch r)) ∧ (enrX X id ch r).length ≤ c' ∧ Ext H H') := by
  have h4 := hG.len
  refine fn_enter (A := [.slice a X.length c, .int .i64 id, .int .i64 ch, .int .i64 r]) Try.func35 rfl rfl ?_
  have hX := Ext.refl H
  refine xc_seq ?_
  refine xc_region ?_
  refine xl_pure rfl rfl rfl (pv_assign (v := .slice _ _ _) rfl rfl) ?_
  refine xl_pure rfl rfl rfl (pv_assign (v := .int _ _) rfl rfl) ?_
  refine xl_nil ?_
  refine xthen_normal ?_
  refine xc_seq ?_
  refine xc_region ?_
  refine xl_pure rfl rfl rfl (pv_move (v := .slice _ _ _) rfl rfl) ?_
  refine xl_pure rfl rfl rfl (pv_move (v := .int _ _) rfl rfl) ?_
  refine xl_heavy rfl rfl rfl (hv_call (g := 38) rfl rfl (rFind (hD.ext hX) hG id) rfl) ?_
  rintro v1_2 H1_2 ⟨hv1_2, rfl⟩
  rcases hv1_2 with ⟨hi1_2, rfl⟩ | ⟨hi1_2, rfl⟩
  · skip
    refine xl_pure rfl rfl rfl (pv_assign (v := .int _ _) rfl rfl) ?_
    refine xl_nil ?_
    refine xthen_normal ?_
    refine xc_seq ?_
    refine xc_seq ?_
    refine xc_region ?_
    refine xl_pure rfl rfl rfl (pv_move (v := .int _ _) rfl rfl) ?_
    refine xl_dec rfl rfl rfl (pv_lss rfl rfl rfl) (fun h2_1 => ?_) (fun h2_1 => ?_)
    · first
      | (exfalso; omega)
      |  (skip
          refine xl_nil ?_
          refine xthen_normal ?_
          refine xc_cond_t rfl ?_
          refine xc_seq ?_
          refine xc_region ?_
          refine xl_pure rfl rfl rfl (pv_move (v := .slice _ _ _) rfl rfl) ?_
          refine xl_pure rfl rfl rfl (pv_assign (v := .slice _ _ _) rfl rfl) ?_
          refine xl_pure rfl rfl rfl (pv_assign (v := .int _ _) rfl rfl) ?_
          refine xl_nil ?_
          refine xthen_normal ?_
          refine xc_ret ?_
          refine xthen_ret ?_
          refine fin_ret (res2 (v := .slice _ _ _) (x := .int _ _) rfl rfl rfl) ?_
          first
            | (have e0 := enr_no (c := ch) (r := r) hi1_2; exact ⟨a, c, by rw [e0.1, e0.2], by rw [e0.2]; exact hD.ext hX, by rw [e0.2]; exact hc, hX⟩)
            | (exfalso; unfold inG at hi1_2; omega))
    · first
      | (exfalso; omega)
      |  (skip
          refine xl_nil ?_
          refine xthen_normal ?_
          refine xc_cond_f rfl ?_
          refine xc_skip ?_
          refine xthen_normal ?_
          refine xc_seq ?_
          refine xc_seq ?_
          refine xc_region ?_
          refine xl_pure rfl rfl rfl (pv_move (v := .int _ _) rfl rfl) ?_
          refine xl_heavy rfl rfl rfl (hv_call (g := 32) rfl rfl (rIsChar ch) rfl) ?_
          rintro v4_1 H4_1 ⟨hv4_1, rfl⟩
          rcases hv4_1 with ⟨hi4_1, rfl⟩ | ⟨hi4_1, rfl⟩
          · skip
            refine xl_pure rfl rfl rfl (pv_not rfl rfl) ?_
            refine xl_pure rfl rfl rfl (pv_move (v := .bool _) rfl rfl) ?_
            refine xl_pure rfl rfl rfl (pv_move (v := .int _ _) rfl rfl) ?_
            refine xl_heavy rfl rfl rfl (hv_call (g := 33) rfl rfl (rMay r) rfl) ?_
            rintro v4_5 H4_5 ⟨hv4_5, rfl⟩
            rcases hv4_5 with ⟨hi4_5, rfl⟩ | ⟨hi4_5, rfl⟩
            · skip
              refine xl_pure rfl rfl rfl (pv_not rfl rfl) ?_
              refine xl_pure rfl rfl rfl (pv_pick_f (v := .bool _) rfl rfl rfl) ?_
              refine xl_nil ?_
              refine xthen_normal ?_
              refine xc_cond_f rfl ?_
              refine xc_skip ?_
              refine xthen_normal ?_
              refine xc_seq ?_
              obtain ⟨hix, hixv⟩ := inG_ix hi1_2
              obtain ⟨hmk, hlk⟩ := hG.at hix
              have hl16 := mok_len hmk
              obtain ⟨dg, do_, hde⟩ := (hD.ext hX).at'
              obtain ⟨aj, cj, hld, hjr, hl1, hl2⟩ := ld_d (hde (by rw [tg_len]; omega)).2 (show ix id < (tg X).length by rw [tg_len]; omega)
              rw [tg_get (by omega)] at hl2 hjr
              dsimp only at hl2 hjr
              refine xc_region ?_
              refine xl_pure rfl rfl rfl (pv_move (v := .slice _ _ _) rfl rfl) ?_
              refine xl_pure rfl rfl rfl (pv_move (v := .int _ _) rfl rfl) ?_
              refine xl_pure rfl rfl rfl (pv_move (v := .slice _ _ _) rfl rfl) ?_
              refine xl_pure rfl rfl rfl (pv_move (v := .int _ _) rfl rfl) ?_
              refine xl_pure rfl rfl rfl (pv_indexAddr_l rfl (sl_eq (hde (by rw [tg_len]; omega)).1) rfl (by omega)) ?_
              refine xl_pure rfl rfl rfl (pv_fieldAddr rfl rfl) ?_
              refine xl_light rfl rfl rfl (lv_load (v := .slice _ _ _) rfl rfl (by exact hl2)) ?_
              refine xl_pure rfl rfl rfl (pv_move (v := .int _ _) rfl rfl) ?_
              refine xl_heavy rfl rfl rfl (hv_call (g := 48) rfl rfl (rWithout hjr.rows hmk ch) rfl) ?_
              rintro v6_8 H6_8 ⟨a6_8, c6_8, rfl, hQ6_8, hE6_8⟩
              have hX := hX.trans hE6_8
              refine xl_pure rfl rfl rfl (pv_move (v := .int _ _) rfl rfl) ?_
              refine xl_pure rfl rfl rfl (pv_move (v := .int _ _) rfl rfl) ?_
              refine xl_pure rfl rfl rfl (pv_build_s (cs := [.int _ _, .int _ _]) rfl rfl rfl) ?_
              refine xl_heavy rfl rfl rfl (hv_call (g := 47) rfl rfl (rWith hQ6_8 (mok_wo hmk) ch r (wo_no hmk)) rfl) ?_
              rintro v6_12 H6_12 ⟨a6_12, c6_12, rfl, hQ6_12, hE6_12⟩
              have hQ6_8 := hQ6_8.ext hE6_12
              have hX := hX.trans hE6_12
              refine xl_heavy rfl rfl rfl (hv_call (g := 46) rfl rfl (fnC_int hixv (rSet (hD.ext hX) hG hc (ix id) hix rfl hQ6_12 (mok_put (mok_wo hmk) hi4_1 hi4_5))) rfl) ?_
              rintro v6_13 H6_13 ⟨a6_13, c6_13, rfl, hS6_13, hc6_13, hE6_13⟩
              have hQ6_8 := hQ6_8.ext hE6_13
              have hQ6_12 := hQ6_12.ext hE6_13
              have hX := hX.trans hE6_13
              refine xl_pure rfl rfl rfl (pv_extract (v := .slice _ _ _) rfl rfl rfl) ?_
              refine xl_pure rfl rfl rfl (pv_extract (v := .int _ _) rfl rfl rfl) ?_
              refine xl_pure rfl rfl rfl (pv_assign (v := .slice _ _ _) rfl rfl) ?_
              refine xl_pure rfl rfl rfl (pv_assign (v := .int _ _) rfl rfl) ?_
              refine xl_nil ?_
              refine xthen_normal ?_
              refine xc_ret ?_
              refine fin_ret (res2 (v := .slice _ _ _) (x := .int _ _) rfl rfl rfl) ?_
              have e0 := enr_set (c := ch) (r := r) hi1_2 ⟨hi4_1, hi4_5⟩
              have e1 : (putA (wo (gM X (ix id)) ch) ch r) = enrL X id ch r := put_wo hmk
              rw [e1] at hS6_13
              exact ⟨a6_13, c6_13, by rw [e0.1, e1, len_enr], by rw [e0.2]; exact hS6_13, by rw [len_enr]; exact hc6_13, hX⟩
            · skip
              refine xl_pure rfl rfl rfl (pv_not rfl rfl) ?_
              refine xl_pure rfl rfl rfl (pv_pick_f (v := .bool _) rfl rfl rfl) ?_
              refine xl_nil ?_
              refine xthen_normal ?_
              refine xc_cond_t rfl ?_
              refine xc_seq ?_
              refine xc_region ?_
              refine xl_pure rfl rfl rfl (pv_move (v := .slice _ _ _) rfl rfl) ?_
              refine xl_pure rfl rfl rfl (pv_assign (v := .slice _ _ _) rfl rfl) ?_
              refine xl_pure rfl rfl rfl (pv_assign (v := .int _ _) rfl rfl) ?_
              refine xl_nil ?_
              refine xthen_normal ?_
              refine xc_ret ?_
              refine xthen_ret ?_
              refine fin_ret (res2 (v := .slice _ _ _) (x := .int _ _) rfl rfl rfl) ?_
              have e0 := enr_arg (c := ch) (r := r) hi1_2 (fun h => by first | exact hi4_1 h.1 | exact hi4_5 h.2); exact ⟨a, c, by rw [e0.1, e0.2], by rw [e0.2]; exact hD.ext hX, by rw [e0.2]; exact hc, hX⟩
          · skip
            refine xl_pure rfl rfl rfl (pv_not rfl rfl) ?_
            refine xl_pure rfl rfl rfl (pv_move (v := .bool _) rfl rfl) ?_
            refine xl_skip rfl rfl rfl ?_
            refine xl_skip rfl rfl rfl ?_
            refine xl_skip rfl rfl rfl ?_
            refine xl_pure rfl rfl rfl (pv_pick_t (v := .bool _) rfl rfl rfl) ?_
            refine xl_nil ?_
            refine xthen_normal ?_
            refine xc_cond_t rfl ?_
            refine xc_seq ?_
            refine xc_region ?_
            refine xl_pure rfl rfl rfl (pv_move (v := .slice _ _ _) rfl rfl) ?_
            refine xl_pure rfl rfl rfl (pv_assign (v := .slice _ _ _) rfl rfl) ?_
            refine xl_pure rfl rfl rfl (pv_assign (v := .int _ _) rfl rfl) ?_
            refine xl_nil ?_
            refine xthen_normal ?_
            refine xc_ret ?_
            refine xthen_ret ?_
            refine fin_ret (res2 (v := .slice _ _ _) (x := .int _ _) rfl rfl rfl) ?_
            have e0 := enr_arg (c := ch) (r := r) hi1_2 (fun h => by first | exact hi4_1 h.1 | exact hi4_5 h.2); exact ⟨a, c, by rw [e0.1, e0.2], by rw [e0.2]; exact hD.ext hX, by rw [e0.2]; exact hc, hX⟩)
  · skip
    refine xl_pure rfl rfl rfl (pv_assign (v := .int _ _) rfl rfl) ?_
    refine xl_nil ?_
    refine xthen_normal ?_
    refine xc_seq ?_
    refine xc_seq ?_
    refine xc_region ?_
    refine xl_pure rfl rfl rfl (pv_move (v := .int _ _) rfl rfl) ?_
    refine xl_dec rfl rfl rfl (pv_lss rfl rfl rfl) (fun h2_1 => ?_) (fun h2_1 => ?_)
    · first
      | (exfalso; omega)
      |  (skip
          refine xl_nil ?_
          refine xthen_normal ?_
          refine xc_cond_t rfl ?_
          refine xc_seq ?_
          refine xc_region ?_
          refine xl_pure rfl rfl rfl (pv_move (v := .slice _ _ _) rfl rfl) ?_
          refine xl_pure rfl rfl rfl (pv_assign (v := .slice _ _ _) rfl rfl) ?_
          refine xl_pure rfl rfl rfl (pv_assign (v := .int _ _) rfl rfl) ?_
          refine xl_nil ?_
          refine xthen_normal ?_
          refine xc_ret ?_
          refine xthen_ret ?_
          refine fin_ret (res2 (v := .slice _ _ _) (x := .int _ _) rfl rfl rfl) ?_
          first
            | (have e0 := enr_no (c := ch) (r := r) hi1_2; exact ⟨a, c, by rw [e0.1, e0.2], by rw [e0.2]; exact hD.ext hX, by rw [e0.2]; exact hc, hX⟩)
            | (exfalso; unfold inG at hi1_2; omega))
    · exact absurd (by decide) h2_1

theorem rExpel {O : Outer} {H : Heap} {a : Option Addr} {c B0 : Nat} {X : List (List (List Int))} (hD : DK H B0 a (tg X)) (hG : GOk X) (hc : X.length ≤ c) (id ch : Int) :
    FnC Try.prog 36 #[.slice a X.length c, .int .i64 id, .int .i64 ch] O H (fun v H' => ∃ a' c', v = .tuple #[.slice a' (expX X id ch).length c', .int .i64 (expE X id ch)] ∧ DK H' B0 a' (tg (expX X id ch)) ∧ (expX X id ch).length ≤ c' ∧ Ext H H') := by
  have h4 := hG.len
  refine fn_enter (A := [.slice a X.length c, .int .i64 id, .int .i64 ch]) Try.func36 rfl rfl ?_
  have hX := Ext.refl H
  refine xc_seq ?_
  refine xc_region ?_
  refine xl_pure rfl rfl rfl (pv_assign (v := .slice _ _ _) rfl rfl) ?_
  refine xl_pure rfl rfl rfl (pv_assign (v := .int _ _) rfl rfl) ?_
  refine xl_nil ?_
  refine xthen_normal ?_
  refine xc_seq ?_
  refine xc_seq ?_
  refine xc_region ?_
  refine xl_pure rfl rfl rfl (pv_move (v := .slice _ _ _) rfl rfl) ?_
  refine xl_pure rfl rfl rfl (pv_move (v := .int _ _) rfl rfl) ?_
  refine xl_pure rfl rfl rfl (pv_move (v := .int _ _) rfl rfl) ?_
  refine xl_heavy rfl rfl rfl (hv_call (g := 37) rfl rfl (rRoles (hD.ext hX) hG id ch) rfl) ?_
  rintro v1_3 H1_3 ⟨rfl, rfl⟩
  refine xl_pure rfl rfl rfl (pv_move (v := .tuple _) rfl rfl) ?_
  refine xl_pure rfl rfl rfl (pv_extract (v := .int _ _) rfl rfl rfl) ?_
  refine xl_pure rfl rfl rfl (pv_extract (v := .int _ _) rfl rfl rfl) ?_
  refine xl_pure rfl rfl rfl (pv_assign (v := .int _ _) rfl rfl) ?_
  refine xl_pure rfl rfl rfl (pv_assign (v := .int _ _) rfl rfl) ?_
  refine xl_nil ?_
  refine xthen_normal ?_
  refine xc_seq ?_
  refine xc_region ?_
  refine xl_pure rfl rfl rfl (pv_move (v := .int _ _) rfl rfl) ?_
  refine xl_ndec rfl rfl rfl (pv_neq rfl rfl rfl) (fun h2_1 => ?_) (fun h2_1 => ?_)
  · skip
    refine xl_nil ?_
    refine xthen_normal ?_
    refine xc_cond_f rfl ?_
    refine xc_skip ?_
    refine xthen_normal ?_
    refine xc_seq ?_
    obtain ⟨hin, hhas⟩ := rol_inv h2_1
    refine xc_region ?_
    refine xl_pure rfl rfl rfl (pv_move (v := .slice _ _ _) rfl rfl) ?_
    refine xl_pure rfl rfl rfl (pv_move (v := .int _ _) rfl rfl) ?_
    refine xl_heavy rfl rfl rfl (hv_call (g := 38) rfl rfl (rFindIn (hD.ext hX) hG hin) rfl) ?_
    rintro v4_2 H4_2 ⟨rfl, rfl⟩
    refine xl_pure rfl rfl rfl (pv_assign (v := .int _ _) rfl rfl) ?_
    refine xl_nil ?_
    refine xthen_normal ?_
    refine xc_seq ?_
    obtain ⟨hix, hixv⟩ := inG_ix hin
    obtain ⟨hmk, hlk⟩ := hG.at hix
    have hl16 := mok_len hmk
    obtain ⟨dg, do_, hde⟩ := (hD.ext hX).at'
    obtain ⟨aj, cj, hld, hjr, hl1, hl2⟩ := ld_d (hde (by rw [tg_len]; omega)).2 (show ix id < (tg X).length by rw [tg_len]; omega)
    rw [tg_get (by omega)] at hl2 hjr
    dsimp only at hl2 hjr
    refine xc_region ?_
    refine xl_pure rfl rfl rfl (pv_move (v := .slice _ _ _) rfl rfl) ?_
    refine xl_pure rfl rfl rfl (pv_move (v := .int _ _) rfl rfl) ?_
    refine xl_pure rfl rfl rfl (pv_move (v := .slice _ _ _) rfl rfl) ?_
    refine xl_pure rfl rfl rfl (pv_move (v := .int _ _) rfl rfl) ?_
    refine xl_pure rfl rfl rfl (pv_indexAddr_l rfl (sl_eq (hde (by rw [tg_len]; omega)).1) rfl (by omega)) ?_
    refine xl_pure rfl rfl rfl (pv_fieldAddr rfl rfl) ?_
    refine xl_light rfl rfl rfl (lv_load (v := .slice _ _ _) rfl rfl (by exact hl2)) ?_
    refine xl_pure rfl rfl rfl (pv_move (v := .int _ _) rfl rfl) ?_
    refine xl_heavy rfl rfl rfl (hv_call (g := 48) rfl rfl (rWithout hjr.rows hmk ch) rfl) ?_
    rintro v5_8 H5_8 ⟨a5_8, c5_8, rfl, hQ5_8, hE5_8⟩
    have hX := hX.trans hE5_8
    refine xl_heavy rfl rfl rfl (hv_call (g := 46) rfl rfl (fnC_int hixv (rSet (hD.ext hX) hG hc (ix id) hix rfl hQ5_8 (mok_wo hmk))) rfl) ?_
    rintro v5_9 H5_9 ⟨a5_9, c5_9, rfl, hS5_9, hc5_9, hE5_9⟩
    have hQ5_8 := hQ5_8.ext hE5_9
    have hX := hX.trans hE5_9
    refine xl_pure rfl rfl rfl (pv_extract (v := .slice _ _ _) rfl rfl rfl) ?_
    refine xl_pure rfl rfl rfl (pv_extract (v := .int _ _) rfl rfl rfl) ?_
    refine xl_pure rfl rfl rfl (pv_assign (v := .slice _ _ _) rfl rfl) ?_
    refine xl_pure rfl rfl rfl (pv_assign (v := .int _ _) rfl rfl) ?_
    refine xl_nil ?_
    refine xthen_normal ?_
    refine xc_ret ?_
    refine fin_ret (res2 (v := .slice _ _ _) (x := .int _ _) rfl rfl rfl) ?_
    have e0 := exp_set h2_1
    exact ⟨a5_9, c5_9, by rw [e0.1, len_exp]; rfl, by rw [e0.2]; exact hS5_9, by rw [len_exp]; exact hc5_9, hX⟩
  · skip
    refine xl_nil ?_
    refine xthen_normal ?_
    refine xc_cond_t rfl ?_
    refine xc_seq ?_
    refine xc_region ?_
    refine xl_pure rfl rfl rfl (pv_move (v := .slice _ _ _) rfl rfl) ?_
    refine xl_pure rfl rfl rfl (pv_move (v := .int _ _) rfl rfl) ?_
    refine xl_pure rfl rfl rfl (pv_assign (v := .slice _ _ _) rfl rfl) ?_
    refine xl_pure rfl rfl rfl (pv_assign (v := .int _ _) rfl rfl) ?_
    refine xl_nil ?_
    refine xthen_normal ?_
    refine xc_ret ?_
    refine xthen_ret ?_
    refine fin_ret (res2 (v := .slice _ _ _) (x := .int _ _) rfl rfl rfl) ?_
    have e0 := exp_no h2_1; exact ⟨a, c, by rw [e0.1, e0.2], by rw [e0.2]; exact hD.ext hX, by rw [e0.2]; exact hc, hX⟩

theorem rMembersIn {O : Outer} {H : Heap} {a : Option Addr} {c B0 : Nat} {X : List (List (List Int))} (hD : DK H B0 a (tg X)) (hG : GOk X) {id : Int} (hi : inG X id) :
    FnC Try.prog 17 #[.slice a X.length c, .int .i64 id] O H (fun v H' => ∃ a' c', v = .tuple #[.slice a' (gM X (ix id)).length c', .int .i64 0] ∧ RowsB H' B0 a' (gM X (ix id)) ∧ H = H') :=
  (rMembers hD hG id).mono fun v H' h => by
    rcases h with ⟨⟨_, a', c', h1, h3⟩ | ⟨h0, _⟩, h2⟩
    · exact ⟨a', c', h1, h3, h2⟩
    · exact absurd hi h0
theorem rMembersNo {O : Outer} {H : Heap} {a : Option Addr} {c B0 : Nat} {X : List (List (List Int))} (hD : DK H B0 a (tg X)) (hG : GOk X) {id : Int} (hi : ¬ inG X id) :
    FnC Try.prog 17 #[.slice a X.length c, .int .i64 id] O H (fun v H' => v = .tuple #[.slice none 0 0, .int .i64 3] ∧ H = H') :=
  (rMembers hD hG id).mono fun v H' h => by
    rcases h with ⟨⟨h0, _⟩ | ⟨_, h1⟩, h2⟩
    · exact absurd h0 hi
    · exact ⟨h1, h2⟩

theorem rSame {O : Outer} {H : Heap} {a1 a2 : Option Addr} {c1 c2 B1 B2 : Nat} {X Y : List (List (List Int))} (h1 : DK H B1 a1 (tg X)) (h2 : DK H B2 a2 (tg Y)) (hX4 : X.length < 1000) (hml : ∀ k, k < X.length → (gM X k).length < 1000000) :
    FnC Try.prog 10 #[.slice a1 X.length c1, .slice a2 Y.length c2] O H (fun v H' => ∃ r, v = .bool r ∧ (r = true ↔ X = Y) ∧ H = H') := by
  refine fn_enter (A := [.slice a1 X.length c1, .slice a2 Y.length c2]) Try.func10 rfl rfl ?_
  have hX := Ext.refl H
  refine xc_seq ?_
  refine xc_region ?_
  refine xl_pure rfl rfl rfl (pv_assign (v := .bool _) rfl rfl) ?_
  refine xl_nil ?_
  refine xthen_normal ?_
  refine xc_seq ?_
  refine xc_seq ?_
  refine xc_region ?_
  refine xl_pure rfl rfl rfl (pv_move (v := .slice _ _ _) rfl rfl) ?_
  refine xl_pure rfl rfl rfl (pv_len_l rfl rfl) ?_
  refine xl_pure rfl rfl rfl (pv_move (v := .slice _ _ _) rfl rfl) ?_
  refine xl_pure rfl rfl rfl (pv_len_l rfl rfl) ?_
  refine xl_ndec rfl rfl rfl (pv_neq rfl rfl rfl) (fun h1_4 => ?_) (fun h1_4 => ?_)
  · skip
    refine xl_nil ?_
    refine xthen_normal ?_
    refine xc_cond_f rfl ?_
    refine xc_skip ?_
    refine xthen_normal ?_
    refine xc_seq ?_
    refine xc_seq ?_
    refine xc_region ?_
    refine xl_pure rfl rfl rfl (pv_assign (v := .int _ _) rfl rfl) ?_
    refine xl_nil ?_
    refine xthen_normal ?_
    refine xc_block ?_
    refine xc_loop (τ := Nat) (fun t => [(0, .slice a1 X.length c1), (1, .slice a2 Y.length c2), (5, .int .i64 (t : Nat))]) (fun t H' => (t ≤ X.length) ∧ (∀ j, j < t → gM X j = gM Y j) ∧ (H = H') ∧ (Ext H H')) (fun t H' => X.length - t) 0 ?_ ?_ ?_
    · exact ⟨rfl, rfl, rfl, trivial⟩
    · skip
      exact ⟨Nat.zero_le _, fun j h => absurd h (by omega), rfl, hX⟩
    · intro σ
      clear hX
      rintro k Hl4 ⟨hk, hall, heq, hX⟩
      replace hk : k ≤ X.length := hk
      replace hall : ∀ j, j < k → gM X j = gM Y j := hall
      replace heq : H = Hl4 := heq
      replace hX : Ext H Hl4 := hX
      subst heq
      obtain ⟨g1, o1, hdx⟩ := h1.at'
      obtain ⟨g2, o2, hdy⟩ := h2.at'
      show XC _ _ _ (upds σ [(0, .slice a1 X.length c1), (1, .slice a2 Y.length c2), (5, .int .i64 (k : Nat))]) _
      refine xc_seq ?_
      refine xc_seq ?_
      refine xc_region ?_
      refine xl_pure rfl rfl rfl (pv_move (v := .int _ _) rfl rfl) ?_
      refine xl_pure rfl rfl rfl (pv_move (v := .slice _ _ _) rfl rfl) ?_
      refine xl_pure rfl rfl rfl (pv_len_l rfl rfl) ?_
      refine xl_dec rfl rfl rfl (pv_lss rfl rfl rfl) (fun h4_3 => ?_) (fun h4_3 => ?_)
      · skip
        refine xl_pure rfl rfl rfl (pv_move (v := .bool _) rfl rfl) ?_
        refine xl_pure rfl rfl rfl (pv_move (v := .int _ _) rfl rfl) ?_
        refine xl_pure rfl rfl rfl (pv_move (v := .slice _ _ _) rfl rfl) ?_
        refine xl_pure rfl rfl rfl (pv_len_l rfl rfl) ?_
        refine xl_dec rfl rfl rfl (pv_lss rfl rfl rfl) (fun h4_8 => ?_) (fun h4_8 => ?_)
        · skip
          refine xl_pure rfl rfl rfl (pv_pick_t (v := .bool _) rfl rfl rfl) ?_
          refine xl_nil ?_
          refine xthen_normal ?_
          refine xc_cond_t rfl ?_
          refine xc_skip ?_
          refine xthen_normal ?_
          refine xc_seq ?_
          refine xc_block ?_
          refine xc_seq ?_
          obtain ⟨ajx, cjx, hldx, hjrx, hl1x, hl2x⟩ := ld_d (hdx (by rw [tg_len]; omega)).2 (show k < (tg X).length by rw [tg_len]; omega)
          rw [tg_get (by omega)] at hl1x hl2x hjrx
          dsimp only at hl1x hl2x hjrx
          obtain ⟨ajy, cjy, hldy, hjry, hl1y, hl2y⟩ := ld_d (hdy (by rw [tg_len]; omega)).2 (show k < (tg Y).length by rw [tg_len]; omega)
          rw [tg_get (by omega)] at hl1y hl2y hjry
          dsimp only at hl1y hl2y hjry
          have hmk := hml k (by omega)
          refine xp_start rfl (by repeat (first | with_reducible exact np_fin | with_reducible exact np_ret | with_reducible refine np_then ?_ | with_reducible refine np_block ?_)) (by kernel_rfl) ?_
          refine xp_pure (i := 0) rfl (by kernel_rfl) (by kernel_rfl) rfl rfl rfl (pv_move (v := .slice _ _ _) rfl rfl) ?_
          refine xp_pure (i := 1) rfl (by kernel_rfl) (by kernel_rfl) rfl rfl rfl (pv_move (v := .int _ _) rfl rfl) ?_
          refine xp_pure (i := 2) rfl (by kernel_rfl) (by kernel_rfl) rfl rfl rfl (pv_indexAddr_l rfl (sl_eq (hdx (by rw [tg_len]; omega)).1) rfl (by omega)) ?_
          refine xp_pure (i := 3) rfl (by kernel_rfl) (by kernel_rfl) rfl rfl rfl (pv_fieldAddr rfl rfl) ?_
          refine xp_light (i := 4) rfl (by kernel_rfl) (by kernel_rfl) rfl rfl rfl (lv_load (v := .int _ _) rfl rfl (by exact hl1x)) ?_
          refine xp_pure (i := 5) rfl (by kernel_rfl) (by kernel_rfl) rfl rfl rfl (pv_move (v := .slice _ _ _) rfl rfl) ?_
          refine xp_pure (i := 6) rfl (by kernel_rfl) (by kernel_rfl) rfl rfl rfl (pv_move (v := .int _ _) rfl rfl) ?_
          refine xp_pure (i := 7) rfl (by kernel_rfl) (by kernel_rfl) rfl rfl rfl (pv_indexAddr_l rfl (sl_eq (hdy (by rw [tg_len]; omega)).1) rfl (by omega)) ?_
          refine xp_pure (i := 8) rfl (by kernel_rfl) (by kernel_rfl) rfl rfl rfl (pv_fieldAddr rfl rfl) ?_
          refine xp_light (i := 9) rfl (by kernel_rfl) (by kernel_rfl) rfl rfl rfl (lv_load (v := .int _ _) rfl rfl (by exact hl1y)) ?_
          refine xp_ndec (i := 10) rfl (by kernel_rfl) (by kernel_rfl) rfl rfl rfl (pv_neq rfl rfl rfl) (fun h6_10 => ?_) (fun h6_10 => ?_)
          · skip
            refine xp_pure (i := 11) rfl (by kernel_rfl) (by kernel_rfl) rfl rfl rfl (pv_move (v := .bool _) rfl rfl) ?_
            refine xp_pure (i := 12) rfl (by kernel_rfl) (by kernel_rfl) rfl rfl rfl (pv_move (v := .slice _ _ _) rfl rfl) ?_
            refine xp_pure (i := 13) rfl (by kernel_rfl) (by kernel_rfl) rfl rfl rfl (pv_move (v := .int _ _) rfl rfl) ?_
            refine xp_pure (i := 14) rfl (by kernel_rfl) (by kernel_rfl) rfl rfl rfl (pv_indexAddr_l rfl (sl_eq (hdx (by rw [tg_len]; omega)).1) rfl (by omega)) ?_
            refine xp_pure (i := 15) rfl (by kernel_rfl) (by kernel_rfl) rfl rfl rfl (pv_fieldAddr rfl rfl) ?_
            refine xp_light (i := 16) rfl (by kernel_rfl) (by kernel_rfl) rfl rfl rfl (lv_load (v := .slice _ _ _) rfl rfl (by exact hl2x)) ?_
            refine xp_pure (i := 17) rfl (by kernel_rfl) (by kernel_rfl) rfl rfl rfl (pv_move (v := .slice _ _ _) rfl rfl) ?_
            refine xp_pure (i := 18) rfl (by kernel_rfl) (by kernel_rfl) rfl rfl rfl (pv_move (v := .int _ _) rfl rfl) ?_
            refine xp_pure (i := 19) rfl (by kernel_rfl) (by kernel_rfl) rfl rfl rfl (pv_indexAddr_l rfl (sl_eq (hdy (by rw [tg_len]; omega)).1) rfl (by omega)) ?_
            refine xp_pure (i := 20) rfl (by kernel_rfl) (by kernel_rfl) rfl rfl rfl (pv_fieldAddr rfl rfl) ?_
            refine xp_light (i := 21) rfl (by kernel_rfl) (by kernel_rfl) rfl rfl rfl (lv_load (v := .slice _ _ _) rfl rfl (by exact hl2y)) ?_
            refine xp_heavy (i := 22) (by kernel_rfl) ?_
            refine xph_val rfl rfl rfl rfl (hv_call (g := 18) rfl rfl (rSameM (gM X k) (gM Y k) _ _ _ _ hjrx.rows hjry.rows (by omega)) rfl) (pd (by kernel_rfl) (pd (by kernel_rfl) (pk (by kernel_rfl) (pk (by kernel_rfl) pn)))) ?_
            rintro v6_22 H6_22 ⟨r6_22, rfl, hb6_22, rfl⟩
            refine ⟨(okc (lv_load (v := .int _ _) rfl rfl (by exact hl1y)) (okc (lv_load (v := .int _ _) rfl rfl (by exact hl1x)) okn)), ?_⟩
            cases r6_22
            · skip
              refine xp_pure (i := 23) rfl (by kernel_rfl) (by kernel_rfl) rfl rfl rfl (pv_not rfl rfl) ?_
              refine xp_pure (i := 24) rfl (by kernel_rfl) (by kernel_rfl) rfl rfl rfl (pv_pick_f (v := .bool _) rfl rfl rfl) ?_
              refine xp_done (by kernel_rfl) ?_
              refine xthen_normal ?_
              refine xc_cond_t rfl ?_
              refine xc_seq ?_
              refine xc_region ?_
              refine xl_pure rfl rfl rfl (pv_assign (v := .bool _) rfl rfl) ?_
              refine xl_nil ?_
              refine xthen_normal ?_
              refine xc_ret ?_
              refine xblock_ret ?_
              refine xthen_ret ?_
              refine xthen_ret ?_
              refine xblock_ret ?_
              refine xthen_ret ?_
              refine fin_ret (res1 (v := .bool _) rfl rfl) ?_
              exact ⟨false, rfl, ⟨fun h => (by cases h), fun h => by subst h; exact absurd (hb6_22.2 rfl) (by decide)⟩, rfl⟩
            · skip
              refine xp_pure (i := 23) rfl (by kernel_rfl) (by kernel_rfl) rfl rfl rfl (pv_not rfl rfl) ?_
              refine xp_pure (i := 24) rfl (by kernel_rfl) (by kernel_rfl) rfl rfl rfl (pv_pick_f (v := .bool _) rfl rfl rfl) ?_
              refine xp_done (by kernel_rfl) ?_
              refine xthen_normal ?_
              refine xc_cond_f rfl ?_
              refine xc_skip ?_
              refine xblock_normal ?_
              refine xthen_normal ?_
              refine xc_region ?_
              refine xl_pure rfl rfl rfl (pv_move (v := .int _ _) rfl rfl) ?_
              refine xl_pure rfl rfl rfl (pv_add rfl rfl rfl (fit_i64 (by omega))) ?_
              refine xl_pure rfl rfl rfl (pv_assign (v := .int _ _) rfl rfl) ?_
              refine xl_nil ?_
              refine xthen_normal ?_
              exact ⟨k + 1, ⟨rfl, rfl, rfl, trivial⟩, ⟨by (try simp only); omega, all_next hall (hb6_22.1 rfl), rfl, hX⟩, by (try simp only); omega⟩
          · exact absurd rfl h6_10
        · skip
          refine xl_pure rfl rfl rfl (pv_pick_t (v := .bool _) rfl rfl rfl) ?_
          refine xl_nil ?_
          refine xthen_normal ?_
          refine xc_cond_f rfl ?_
          refine xc_exit ?_
          refine xthen_exit ?_
          refine xthen_exit ?_
          refine xblock_same ?_
          refine xthen_normal ?_
          refine xc_seq ?_
          refine xc_region ?_
          refine xl_pure rfl rfl rfl (pv_assign (v := .bool _) rfl rfl) ?_
          refine xl_nil ?_
          refine xthen_normal ?_
          refine xc_ret ?_
          refine fin_ret (res1 (v := .bool _) rfl rfl) ?_
          exact ⟨true, rfl, ⟨fun _ => gext (by omega) (fun j hj => hall j (by omega)), fun _ => rfl⟩, rfl⟩
      · skip
        refine xl_pure rfl rfl rfl (pv_move (v := .bool _) rfl rfl) ?_
        refine xl_skip rfl rfl rfl ?_
        refine xl_skip rfl rfl rfl ?_
        refine xl_skip rfl rfl rfl ?_
        refine xl_skip rfl rfl rfl ?_
        refine xl_pure rfl rfl rfl (pv_pick_f (v := .bool _) rfl rfl rfl) ?_
        refine xl_nil ?_
        refine xthen_normal ?_
        refine xc_cond_f rfl ?_
        refine xc_exit ?_
        refine xthen_exit ?_
        refine xthen_exit ?_
        refine xblock_same ?_
        refine xthen_normal ?_
        refine xc_seq ?_
        refine xc_region ?_
        refine xl_pure rfl rfl rfl (pv_assign (v := .bool _) rfl rfl) ?_
        refine xl_nil ?_
        refine xthen_normal ?_
        refine xc_ret ?_
        refine fin_ret (res1 (v := .bool _) rfl rfl) ?_
        exact ⟨true, rfl, ⟨fun _ => gext (by omega) (fun j hj => hall j (by omega)), fun _ => rfl⟩, rfl⟩
  · skip
    refine xl_nil ?_
    refine xthen_normal ?_
    refine xc_cond_t rfl ?_
    refine xc_seq ?_
    refine xc_region ?_
    refine xl_pure rfl rfl rfl (pv_assign (v := .bool _) rfl rfl) ?_
    refine xl_nil ?_
    refine xthen_normal ?_
    refine xc_ret ?_
    refine xthen_ret ?_
    refine fin_ret (res1 (v := .bool _) rfl rfl) ?_
    exact ⟨false, rfl, ⟨fun h => (by cases h), fun h => by subst h; omega⟩, rfl⟩

theorem rDo {O : Outer} {H : Heap} {a : Option Addr} {c B0 : Nat} {X : List (List (List Int))} (hD : DK H B0 a (tg X)) (hG : GOk X) (hc : X.length ≤ c) (r : List Int) (hr : r.length = 4) :
    FnC Try.prog 16 #[.slice a X.length c, .agg (ints r).toArray] O H (fun v H' => ∃ a' c', v = .tuple #[.slice a' (actX X r).length c', .int .i64 (actN X r), .int .i64 (actE X r)] ∧ DK H' B0 a' (tg (actX X r)) ∧ (actX X r).length ≤ c' ∧ Ext H H') := by
  refine fn_enter (A := [.slice a X.length c, .agg (ints r).toArray]) Try.func16 rfl rfl ?_
  have hX := Ext.refl H
  refine xc_seq ?_
  refine xc_region ?_
  refine xl_heavy rfl rfl rfl (hv_box rfl rfl) ?_
  rintro v0_0 H0_0 ⟨b0_0, rfl, hN0_0⟩
  have gb0_0 := hX.fresh hN0_0
  have hX := hX.trans hN0_0.ext
  have m0_0 := hN0_0.blk
  refine xl_pure rfl rfl rfl (pv_assign (v := .slice _ _ _) rfl rfl) ?_
  refine xl_pure rfl rfl rfl (pv_assign (v := .int _ _) rfl rfl) ?_
  refine xl_pure rfl rfl rfl (pv_assign (v := .int _ _) rfl rfl) ?_
  refine xl_nil ?_
  refine xthen_normal ?_
  refine xc_seq ?_
  refine xc_seq ?_
  refine xc_region ?_
  refine xl_pure rfl rfl rfl (pv_fieldAddr rfl rfl) ?_
  refine xl_light rfl rfl rfl (lv_load (v := .int _ _) rfl rfl (by exact ld_get (i := 0) m0_0 (by omega))) ?_
  refine xl_nil ?_
  refine xthen_normal ?_
  refine xc_block ?_
  refine xc_seq ?_
  refine xc_region ?_
  refine xl_dec rfl rfl rfl (pv_eql rfl rfl rfl) (fun h2_0 => ?_) (fun h2_0 => ?_)
  · skip
    refine xl_pure rfl rfl rfl (pv_assign (v := .bool _) rfl rfl) ?_
    refine xl_nil ?_
    refine xthen_normal ?_
    refine xc_cond_t rfl ?_
    refine xc_seq ?_
    refine xc_region ?_
    refine xl_pure rfl rfl rfl (pv_move (v := .slice _ _ _) rfl rfl) ?_
    refine xl_pure rfl rfl rfl (pv_fieldAddr rfl rfl) ?_
    refine xl_light rfl rfl rfl (lv_load (v := .int _ _) rfl rfl (by exact ld_get (i := 2) m0_0 (by omega))) ?_
    refine xl_heavy rfl rfl rfl (hv_call (g := 34) rfl rfl (rFound (hD.ext hX) hG hc (r.getD 2 0)) rfl) ?_
    rintro v3_3 H3_3 ⟨a3_3, c3_3, rfl, hS3_3, hc3_3, hE3_3⟩
    have m0_0 := m0_0.ext hE3_3
    have hX := hX.trans hE3_3
    refine xl_pure rfl rfl rfl (pv_extract (v := .slice _ _ _) rfl rfl rfl) ?_
    refine xl_pure rfl rfl rfl (pv_extract (v := .int _ _) rfl rfl rfl) ?_
    refine xl_pure rfl rfl rfl (pv_extract (v := .int _ _) rfl rfl rfl) ?_
    refine xl_pure rfl rfl rfl (pv_assign (v := .slice _ _ _) rfl rfl) ?_
    refine xl_pure rfl rfl rfl (pv_assign (v := .int _ _) rfl rfl) ?_
    refine xl_pure rfl rfl rfl (pv_assign (v := .int _ _) rfl rfl) ?_
    refine xl_nil ?_
    refine xthen_normal ?_
    refine xc_ret ?_
    refine xblock_ret ?_
    refine xthen_ret ?_
    refine fin_ret (res3 (v := .slice _ _ _) (x := .int _ _) (y := .int _ _) rfl rfl rfl rfl) ?_
    obtain ⟨e1, e2, e3⟩ := act1 (X := X) h2_0
    exact ⟨a3_3, c3_3, by rw [e1, e2, e3], by rw [e3]; exact hS3_3, by rw [e3]; exact hc3_3, hX⟩
  · skip
    refine xl_pure rfl rfl rfl (pv_assign (v := .bool _) rfl rfl) ?_
    refine xl_nil ?_
    refine xthen_normal ?_
    refine xc_cond_f rfl ?_
    refine xc_seq ?_
    refine xc_region ?_
    refine xl_dec rfl rfl rfl (pv_eql rfl rfl rfl) (fun h4_0 => ?_) (fun h4_0 => ?_)
    · skip
      refine xl_pure rfl rfl rfl (pv_assign (v := .bool _) rfl rfl) ?_
      refine xl_nil ?_
      refine xthen_normal ?_
      refine xc_cond_t rfl ?_
      refine xc_seq ?_
      refine xc_region ?_
      refine xl_pure rfl rfl rfl (pv_move (v := .slice _ _ _) rfl rfl) ?_
      refine xl_pure rfl rfl rfl (pv_fieldAddr rfl rfl) ?_
      refine xl_light rfl rfl rfl (lv_load (v := .int _ _) rfl rfl (by exact ld_get (i := 1) m0_0 (by omega))) ?_
      refine xl_pure rfl rfl rfl (pv_fieldAddr rfl rfl) ?_
      refine xl_light rfl rfl rfl (lv_load (v := .int _ _) rfl rfl (by exact ld_get (i := 2) m0_0 (by omega))) ?_
      refine xl_pure rfl rfl rfl (pv_fieldAddr rfl rfl) ?_
      refine xl_light rfl rfl rfl (lv_load (v := .int _ _) rfl rfl (by exact ld_get (i := 3) m0_0 (by omega))) ?_
      refine xl_heavy rfl rfl rfl (hv_call (g := 35) rfl rfl (rEnrol (hD.ext hX) hG hc (r.getD 1 0) (r.getD 2 0) (r.getD 3 0)) rfl) ?_
      rintro v5_7 H5_7 ⟨a5_7, c5_7, rfl, hS5_7, hc5_7, hE5_7⟩
      have m0_0 := m0_0.ext hE5_7
      have hX := hX.trans hE5_7
      refine xl_pure rfl rfl rfl (pv_move (v := .tuple _) rfl rfl) ?_
      refine xl_pure rfl rfl rfl (pv_extract (v := .slice _ _ _) rfl rfl rfl) ?_
      refine xl_pure rfl rfl rfl (pv_extract (v := .int _ _) rfl rfl rfl) ?_
      refine xl_pure rfl rfl rfl (pv_assign (v := .slice _ _ _) rfl rfl) ?_
      refine xl_pure rfl rfl rfl (pv_assign (v := .int _ _) rfl rfl) ?_
      refine xl_nil ?_
      refine xthen_normal ?_
      refine xc_seq ?_
      refine xc_region ?_
      refine xl_pure rfl rfl rfl (pv_move (v := .slice _ _ _) rfl rfl) ?_
      refine xl_pure rfl rfl rfl (pv_move (v := .int _ _) rfl rfl) ?_
      refine xl_pure rfl rfl rfl (pv_assign (v := .slice _ _ _) rfl rfl) ?_
      refine xl_pure rfl rfl rfl (pv_assign (v := .int _ _) rfl rfl) ?_
      refine xl_pure rfl rfl rfl (pv_assign (v := .int _ _) rfl rfl) ?_
      refine xl_nil ?_
      refine xthen_normal ?_
      refine xc_ret ?_
      refine xblock_ret ?_
      refine xthen_ret ?_
      refine fin_ret (res3 (v := .slice _ _ _) (x := .int _ _) (y := .int _ _) rfl rfl rfl rfl) ?_
      obtain ⟨e1, e2, e3⟩ := act2 (X := X) h2_0 h4_0
      exact ⟨a5_7, c5_7, by rw [e1, e2, e3], by rw [e3]; exact hS5_7, by rw [e3]; exact hc5_7, hX⟩
    · skip
      refine xl_pure rfl rfl rfl (pv_assign (v := .bool _) rfl rfl) ?_
      refine xl_nil ?_
      refine xthen_normal ?_
      refine xc_cond_f rfl ?_
      refine xc_seq ?_
      refine xc_region ?_
      refine xl_dec rfl rfl rfl (pv_eql rfl rfl rfl) (fun h7_0 => ?_) (fun h7_0 => ?_)
      · skip
        refine xl_pure rfl rfl rfl (pv_assign (v := .bool _) rfl rfl) ?_
        refine xl_nil ?_
        refine xthen_normal ?_
        refine xc_cond_t rfl ?_
        refine xc_seq ?_
        refine xc_region ?_
        refine xl_pure rfl rfl rfl (pv_move (v := .slice _ _ _) rfl rfl) ?_
        refine xl_pure rfl rfl rfl (pv_fieldAddr rfl rfl) ?_
        refine xl_light rfl rfl rfl (lv_load (v := .int _ _) rfl rfl (by exact ld_get (i := 1) m0_0 (by omega))) ?_
        refine xl_pure rfl rfl rfl (pv_fieldAddr rfl rfl) ?_
        refine xl_light rfl rfl rfl (lv_load (v := .int _ _) rfl rfl (by exact ld_get (i := 2) m0_0 (by omega))) ?_
        refine xl_heavy rfl rfl rfl (hv_call (g := 36) rfl rfl (rExpel (hD.ext hX) hG hc (r.getD 1 0) (r.getD 2 0)) rfl) ?_
        rintro v8_5 H8_5 ⟨a8_5, c8_5, rfl, hS8_5, hc8_5, hE8_5⟩
        have m0_0 := m0_0.ext hE8_5
        have hX := hX.trans hE8_5
        refine xl_pure rfl rfl rfl (pv_move (v := .tuple _) rfl rfl) ?_
        refine xl_pure rfl rfl rfl (pv_extract (v := .slice _ _ _) rfl rfl rfl) ?_
        refine xl_pure rfl rfl rfl (pv_extract (v := .int _ _) rfl rfl rfl) ?_
        refine xl_pure rfl rfl rfl (pv_assign (v := .slice _ _ _) rfl rfl) ?_
        refine xl_pure rfl rfl rfl (pv_assign (v := .int _ _) rfl rfl) ?_
        refine xl_nil ?_
        refine xthen_normal ?_
        refine xc_seq ?_
        refine xc_region ?_
        refine xl_pure rfl rfl rfl (pv_move (v := .slice _ _ _) rfl rfl) ?_
        refine xl_pure rfl rfl rfl (pv_move (v := .int _ _) rfl rfl) ?_
        refine xl_pure rfl rfl rfl (pv_assign (v := .slice _ _ _) rfl rfl) ?_
        refine xl_pure rfl rfl rfl (pv_assign (v := .int _ _) rfl rfl) ?_
        refine xl_pure rfl rfl rfl (pv_assign (v := .int _ _) rfl rfl) ?_
        refine xl_nil ?_
        refine xthen_normal ?_
        refine xc_ret ?_
        refine xblock_ret ?_
        refine xthen_ret ?_
        refine fin_ret (res3 (v := .slice _ _ _) (x := .int _ _) (y := .int _ _) rfl rfl rfl rfl) ?_
        obtain ⟨e1, e2, e3⟩ := act3 (X := X) h2_0 h4_0 h7_0
        exact ⟨a8_5, c8_5, by rw [e1, e2, e3], by rw [e3]; exact hS8_5, by rw [e3]; exact hc8_5, hX⟩
      · skip
        refine xl_pure rfl rfl rfl (pv_assign (v := .bool _) rfl rfl) ?_
        refine xl_nil ?_
        refine xthen_normal ?_
        refine xc_cond_f rfl ?_
        refine xc_skip ?_
        refine xblock_normal ?_
        refine xthen_normal ?_
        refine xc_seq ?_
        refine xc_region ?_
        refine xl_pure rfl rfl rfl (pv_move (v := .slice _ _ _) rfl rfl) ?_
        refine xl_pure rfl rfl rfl (pv_fieldAddr rfl rfl) ?_
        refine xl_light rfl rfl rfl (lv_load (v := .int _ _) rfl rfl (by exact ld_get (i := 1) m0_0 (by omega))) ?_
        refine xl_pure rfl rfl rfl (pv_fieldAddr rfl rfl) ?_
        refine xl_light rfl rfl rfl (lv_load (v := .int _ _) rfl rfl (by exact ld_get (i := 2) m0_0 (by omega))) ?_
        refine xl_heavy rfl rfl rfl (hv_call (g := 37) rfl rfl (rRoles (hD.ext hX) hG (r.getD 1 0) (r.getD 2 0)) rfl) ?_
        rintro v10_5 H10_5 ⟨rfl, rfl⟩
        refine xl_pure rfl rfl rfl (pv_move (v := .tuple _) rfl rfl) ?_
        refine xl_pure rfl rfl rfl (pv_extract (v := .int _ _) rfl rfl rfl) ?_
        refine xl_pure rfl rfl rfl (pv_extract (v := .int _ _) rfl rfl rfl) ?_
        refine xl_pure rfl rfl rfl (pv_assign (v := .int _ _) rfl rfl) ?_
        refine xl_pure rfl rfl rfl (pv_assign (v := .int _ _) rfl rfl) ?_
        refine xl_nil ?_
        refine xthen_normal ?_
        refine xc_seq ?_
        refine xc_region ?_
        refine xl_pure rfl rfl rfl (pv_move (v := .slice _ _ _) rfl rfl) ?_
        refine xl_pure rfl rfl rfl (pv_move (v := .int _ _) rfl rfl) ?_
        refine xl_pure rfl rfl rfl (pv_move (v := .int _ _) rfl rfl) ?_
        refine xl_pure rfl rfl rfl (pv_assign (v := .slice _ _ _) rfl rfl) ?_
        refine xl_pure rfl rfl rfl (pv_assign (v := .int _ _) rfl rfl) ?_
        refine xl_pure rfl rfl rfl (pv_assign (v := .int _ _) rfl rfl) ?_
        refine xl_nil ?_
        refine xthen_normal ?_
        refine xc_ret ?_
        refine fin_ret (res3 (v := .slice _ _ _) (x := .int _ _) (y := .int _ _) rfl rfl rfl rfl) ?_
        obtain ⟨e1, e2, e3⟩ := act4 (X := X) h2_0 h4_0 h7_0
        exact ⟨a, c, by rw [e1, e2, e3], by rw [e3]; exact hD.ext hX, by rw [e3]; exact hc, hX⟩

theorem iSame {O : Outer} {H : Heap} {a1 a2 : Option Addr} {c1 c2 : Nat} {l m : List Int} (h1 : Ints H a1 l) (h2 : Ints H a2 m) (hl : l.length < 1000000) :
    FnC Try.prog 19 #[.slice a1 l.length c1, .slice a2 m.length c2] O H (fun v H' => ∃ r, v = .bool r ∧ (r = true ↔ l = m) ∧ H = H') := by
  refine fn_enter (A := [.slice a1 l.length c1, .slice a2 m.length c2]) Try.func19 rfl rfl ?_
  have hX := Ext.refl H
  refine xc_seq ?_
  refine xc_region ?_
  refine xl_pure rfl rfl rfl (pv_assign (v := .bool _) rfl rfl) ?_
  refine xl_nil ?_
  refine xthen_normal ?_
  refine xc_seq ?_
  refine xc_seq ?_
  refine xc_region ?_
  refine xl_pure rfl rfl rfl (pv_move (v := .slice _ _ _) rfl rfl) ?_
  refine xl_pure rfl rfl rfl (pv_len_l rfl rfl) ?_
  refine xl_pure rfl rfl rfl (pv_move (v := .slice _ _ _) rfl rfl) ?_
  refine xl_pure rfl rfl rfl (pv_len_l rfl rfl) ?_
  refine xl_ndec rfl rfl rfl (pv_neq rfl rfl rfl) (fun h1_4 => ?_) (fun h1_4 => ?_)
  · skip
    refine xl_nil ?_
    refine xthen_normal ?_
    refine xc_cond_f rfl ?_
    refine xc_skip ?_
    refine xthen_normal ?_
    refine xc_seq ?_
    refine xc_seq ?_
    refine xc_region ?_
    refine xl_pure rfl rfl rfl (pv_assign (v := .int _ _) rfl rfl) ?_
    refine xl_nil ?_
    refine xthen_normal ?_
    refine xc_block ?_
    refine xc_loop (τ := Nat) (fun t => [(0, .slice a1 l.length c1), (1, .slice a2 m.length c2), (5, .int .i64 (t : Nat))]) (fun t H' => (t ≤ l.length) ∧ (∀ j, j < t → l.getD j 0 = m.getD j 0) ∧ (H = H') ∧ (Ext H H')) (fun t H' => l.length - t) 0 ?_ ?_ ?_
    · exact ⟨rfl, rfl, rfl, trivial⟩
    · skip
      exact ⟨Nat.zero_le _, fun j h => absurd h (by omega), rfl, hX⟩
    · intro σ
      clear hX
      rintro k Hl4 ⟨hk, hall, heq, hX⟩
      replace hk : k ≤ l.length := hk
      replace hall : ∀ j, j < k → l.getD j 0 = m.getD j 0 := hall
      replace heq : H = Hl4 := heq
      replace hX : Ext H Hl4 := hX
      subst heq
      obtain ⟨g1, o1, hdx⟩ := h1.at'
      obtain ⟨g2, o2, hdy⟩ := h2.at'
      show XC _ _ _ (upds σ [(0, .slice a1 l.length c1), (1, .slice a2 m.length c2), (5, .int .i64 (k : Nat))]) _
      refine xc_seq ?_
      refine xc_seq ?_
      refine xc_region ?_
      refine xl_pure rfl rfl rfl (pv_move (v := .int _ _) rfl rfl) ?_
      refine xl_pure rfl rfl rfl (pv_move (v := .slice _ _ _) rfl rfl) ?_
      refine xl_pure rfl rfl rfl (pv_len_l rfl rfl) ?_
      refine xl_dec rfl rfl rfl (pv_lss rfl rfl rfl) (fun h4_3 => ?_) (fun h4_3 => ?_)
      · skip
        refine xl_pure rfl rfl rfl (pv_move (v := .bool _) rfl rfl) ?_
        refine xl_pure rfl rfl rfl (pv_move (v := .int _ _) rfl rfl) ?_
        refine xl_pure rfl rfl rfl (pv_move (v := .slice _ _ _) rfl rfl) ?_
        refine xl_pure rfl rfl rfl (pv_len_l rfl rfl) ?_
        refine xl_dec rfl rfl rfl (pv_lss rfl rfl rfl) (fun h4_8 => ?_) (fun h4_8 => ?_)
        · skip
          refine xl_pure rfl rfl rfl (pv_pick_t (v := .bool _) rfl rfl rfl) ?_
          refine xl_nil ?_
          refine xthen_normal ?_
          refine xc_cond_t rfl ?_
          refine xc_skip ?_
          refine xthen_normal ?_
          refine xc_seq ?_
          refine xc_block ?_
          refine xc_seq ?_
          refine xp_start rfl (by repeat (first | with_reducible exact np_fin | with_reducible exact np_ret | with_reducible refine np_then ?_ | with_reducible refine np_block ?_)) (by kernel_rfl) ?_
          refine xp_pure (i := 0) rfl (by kernel_rfl) (by kernel_rfl) rfl rfl rfl (pv_move (v := .slice _ _ _) rfl rfl) ?_
          refine xp_pure (i := 1) rfl (by kernel_rfl) (by kernel_rfl) rfl rfl rfl (pv_move (v := .int _ _) rfl rfl) ?_
          refine xp_pure (i := 2) rfl (by kernel_rfl) (by kernel_rfl) rfl rfl rfl (pv_indexAddr_l rfl (sl_eq (hdx (by omega)).1) rfl (by omega)) ?_
          refine xp_light (i := 3) rfl (by kernel_rfl) (by kernel_rfl) rfl rfl rfl (lv_load (v := .int _ _) rfl rfl (by exact ld_nth (hdx (by omega)).2 (by omega))) ?_
          refine xp_pure (i := 4) rfl (by kernel_rfl) (by kernel_rfl) rfl rfl rfl (pv_move (v := .slice _ _ _) rfl rfl) ?_
          refine xp_pure (i := 5) rfl (by kernel_rfl) (by kernel_rfl) rfl rfl rfl (pv_move (v := .int _ _) rfl rfl) ?_
          refine xp_pure (i := 6) rfl (by kernel_rfl) (by kernel_rfl) rfl rfl rfl (pv_indexAddr_l rfl (sl_eq (hdy (by omega)).1) rfl (by omega)) ?_
          refine xp_light (i := 7) rfl (by kernel_rfl) (by kernel_rfl) rfl rfl rfl (lv_load (v := .int _ _) rfl rfl (by exact ld_nth (hdy (by omega)).2 (by omega))) ?_
          refine xp_ndec (i := 8) rfl (by kernel_rfl) (by kernel_rfl) rfl rfl rfl (pv_neq rfl rfl rfl) (fun h6_8 => ?_) (fun h6_8 => ?_)
          · skip
            refine xp_done (by kernel_rfl) ?_
            refine xthen_normal ?_
            refine xc_cond_f rfl ?_
            refine xc_skip ?_
            refine xblock_normal ?_
            refine xthen_normal ?_
            refine xc_region ?_
            refine xl_pure rfl rfl rfl (pv_move (v := .int _ _) rfl rfl) ?_
            refine xl_pure rfl rfl rfl (pv_add rfl rfl rfl (fit_i64 (by omega))) ?_
            refine xl_pure rfl rfl rfl (pv_assign (v := .int _ _) rfl rfl) ?_
            refine xl_nil ?_
            refine xthen_normal ?_
            exact ⟨k + 1, ⟨rfl, rfl, rfl, trivial⟩, ⟨by (try simp only); omega, all_next hall h6_8, rfl, hX⟩, by (try simp only); omega⟩
          · skip
            refine xp_done (by kernel_rfl) ?_
            refine xthen_normal ?_
            refine xc_cond_t rfl ?_
            refine xc_seq ?_
            refine xc_region ?_
            refine xl_pure rfl rfl rfl (pv_assign (v := .bool _) rfl rfl) ?_
            refine xl_nil ?_
            refine xthen_normal ?_
            refine xc_ret ?_
            refine xblock_ret ?_
            refine xthen_ret ?_
            refine xthen_ret ?_
            refine xblock_ret ?_
            refine xthen_ret ?_
            refine fin_ret (res1 (v := .bool _) rfl rfl) ?_
            exact ⟨false, rfl, ⟨fun h => (by cases h), fun h => by subst h; exact absurd rfl h6_8⟩, rfl⟩
        · skip
          refine xl_pure rfl rfl rfl (pv_pick_t (v := .bool _) rfl rfl rfl) ?_
          refine xl_nil ?_
          refine xthen_normal ?_
          refine xc_cond_f rfl ?_
          refine xc_exit ?_
          refine xthen_exit ?_
          refine xthen_exit ?_
          refine xblock_same ?_
          refine xthen_normal ?_
          refine xc_seq ?_
          refine xc_region ?_
          refine xl_pure rfl rfl rfl (pv_assign (v := .bool _) rfl rfl) ?_
          refine xl_nil ?_
          refine xthen_normal ?_
          refine xc_ret ?_
          refine fin_ret (res1 (v := .bool _) rfl rfl) ?_
          exact ⟨true, rfl, ⟨fun _ => iext (by omega) (fun j hj => hall j (by omega)), fun _ => rfl⟩, rfl⟩
      · skip
        refine xl_pure rfl rfl rfl (pv_move (v := .bool _) rfl rfl) ?_
        refine xl_skip rfl rfl rfl ?_
        refine xl_skip rfl rfl rfl ?_
        refine xl_skip rfl rfl rfl ?_
        refine xl_skip rfl rfl rfl ?_
        refine xl_pure rfl rfl rfl (pv_pick_f (v := .bool _) rfl rfl rfl) ?_
        refine xl_nil ?_
        refine xthen_normal ?_
        refine xc_cond_f rfl ?_
        refine xc_exit ?_
        refine xthen_exit ?_
        refine xthen_exit ?_
        refine xblock_same ?_
        refine xthen_normal ?_
        refine xc_seq ?_
        refine xc_region ?_
        refine xl_pure rfl rfl rfl (pv_assign (v := .bool _) rfl rfl) ?_
        refine xl_nil ?_
        refine xthen_normal ?_
        refine xc_ret ?_
        refine fin_ret (res1 (v := .bool _) rfl rfl) ?_
        exact ⟨true, rfl, ⟨fun _ => iext (by omega) (fun j hj => hall j (by omega)), fun _ => rfl⟩, rfl⟩
  · skip
    refine xl_nil ?_
    refine xthen_normal ?_
    refine xc_cond_t rfl ?_
    refine xc_seq ?_
    refine xc_region ?_
    refine xl_pure rfl rfl rfl (pv_assign (v := .bool _) rfl rfl) ?_
    refine xl_nil ?_
    refine xthen_normal ?_
    refine xc_ret ?_
    refine xthen_ret ?_
    refine fin_ret (res1 (v := .bool _) rfl rfl) ?_
    exact ⟨false, rfl, ⟨fun h => (by cases h), fun h => by subst h; omega⟩, rfl⟩
end Go.XG
