/-
  Walks of the seat's functions over the logic XG: each function, what it computes. Printed by a program out of wip/walks.py.
-/
import Derived.Test.YtmjnbdbbbgabnaaI
import Derived.Test.YtmjnbdbbbgabnaaTm
import Derived.Test.YtmjnbdbbbgabnaaTa
import Derived.Test.YtmjnbdbbbgabnaaTb
import Derived.Test.YtmjnbdbbbgabnaaTd
import Derived.Test.YtmjnbdbbbgabnaaTc
import Derived.Test.YtmjnbdbbbgabnaaP
import Derived.Test.YtmjnbdbbbgabnaaWa
import Derived.Test.YtmjnbdbbbgabnaaWb
import Derived.Test.YtmjnbdbbbgabnaaWc
import Derived.Test.YtmjnbdbbbgabnaaQ
import Derived.Test.YtmjnbdbbbgabnaaTo
namespace Go.XG
open Go.Proofs
set_option maxRecDepth 4000
set_option maxHeartbeats 4000000
theorem c13 {O : Outer} {H : Heap} {bp c : Nat} {a : Option Addr} {x : List (List Int)} (mp : Blk H bp [.slice a (tb x).length c, .int .i64 (tot x)] 56) (hR : RowsT H 85 5 a (tb x)) (hc : (tb x).length ≤ c) (hna : a = none → c = 0) (hl : (tb x).length < 1000000) (hg : Goo x) :
    FnC Try.prog 13 #[.pointer (some ⟨bp, 0, none⟩)] O H (fun v H' => ∃ a' c', v = .slice a' x.length c' ∧ RowsT H' 60 2 a' x ∧ Ext H H') := by
  refine fn_enter (A := [.pointer (some ⟨bp, 0, none⟩)]) Try.func13 rfl rfl ?_
  have hX := Ext.refl H
  refine xc_seq ?_
  refine xc_region ?_
  refine xl_pure rfl rfl rfl (pv_assign (v := .slice _ _ _) rfl rfl) ?_
  refine xl_nil ?_
  refine xthen_normal ?_
  refine xc_seq ?_
  refine xc_seq ?_
  refine xc_region ?_
  refine xl_pure rfl rfl rfl (pv_move (v := .pointer _) rfl rfl) ?_
  refine xl_pure rfl rfl rfl (pv_eql_pn rfl rfl rfl) ?_
  refine xl_nil ?_
  refine xthen_normal ?_
  refine xc_cond_f rfl ?_
  refine xc_skip ?_
  refine xthen_normal ?_
  refine xc_seq ?_
  refine xc_region ?_
  refine xl_heavy rfl rfl rfl (hv_alloc rfl rfl) ?_
  rintro v3_0 H3_0 ⟨b3_0, rfl, hN3_0⟩
  have gb3_0 := hX.fresh hN3_0
  have nmp_3_0 := mp.apart hN3_0
  have mp := mp.ext hN3_0.ext
  have hR := hR.ext hN3_0.ext
  have hX := hX.trans hN3_0.ext
  have m3_0 := hN3_0.blk
  refine xl_nil ?_
  refine xthen_normal ?_
  refine xc_seq_marks2 ?_
  refine xc_region ?_
  refine xl_pure rfl rfl rfl (pv_move (v := .pointer _) rfl rfl) ?_
  refine xl_pure rfl rfl rfl (pv_nilCheck_p rfl rfl) ?_
  refine xl_pure rfl rfl rfl (pv_fieldAddr rfl rfl) ?_
  refine xl_heavy rfl rfl rfl (hv_call (g := 31) rfl rfl (c31 (some ⟨bp, 0, none⟩)) rfl) ?_
  rintro v4_3 H4_3 ⟨bi, rfl, hN4_3⟩
  have m3_0 := m3_0.ext hN4_3.ext
  have mp := mp.ext hN4_3.ext
  have hR := hR.ext hN4_3.ext
  have hX := hX.trans hN4_3.ext
  have mi := hN4_3.blk
  refine xl_nil ?_
  refine xthen_normal ?_
  have hXs := hX.size
  refine xs_rangeB (f := fun i => [.agg (ints (ky (gr (tb x) i))).toArray, .int .i64 ((gr (tb x) i).getD 4 0)]) (n := (tb x).length) rfl (tAll (bt := bp) (b1 := bi) (t := 56) (c := c) (rest := [.int .i64 (tot x)]) (a := a) (l := tb x) (by omega)) (fun _ => rfl) rfl (fun i H' => ∃ (va : Option Addr), ∃ (vc : Nat), (Blk H' b3_0 [.slice va i vc] 22) ∧ (Own H' H.size 60 2 (.slice va i vc) i (fr (x.take i))) ∧ (RowsT H' 85 5 a (tb x)) ∧ (Blk H' bp [.slice a (tb x).length c, .int .i64 (tot x)] 56) ∧ (Blk H' bi [.pointer (some ⟨bp, 0, none⟩)] 72) ∧ (Ext H H')) (fun H' => False) ?_ ?_ ?_ ?_ ?_ ?_ ?_ ?_ ?_ ?_
  · rintro i H1 H2 ⟨va, vc, m3_0, ho, hR, mp, mi, hX⟩ e; exact ⟨va, vc, m3_0.ext e, ho.ext e, hR.ext e, mp.ext e, mi.ext e, hX.trans e⟩
  · rintro i l H1 H2 hle ⟨va, vc, m3_0, ho, hR, mp, mi, hX⟩ u; exact ⟨va, vc, m3_0.lp u, ho.lp u, hR.lp u, mp.lp u, mi.lp u, hX.lp u (Nat.le_trans hXs hle)⟩
  · intro _ _ h; exact h.elim
  · intro _ _ _ _ h; exact h.elim
  · rintro H' ⟨va, vc, m3_0, ho, hR, mp, mi, hX⟩; exact ⟨mi, mp⟩
  · rintro i H' ⟨va, vc, m3_0, ho, hR, mp, mi, hX⟩; exact hR
  · exact ⟨none, 0, m3_0, by simpa [fr] using Own.nil _ H.size 60 2, hR, mp, mi, hX⟩
  · skip
    clear hX mp hR m3_0 mi
    rintro i Hr5 oD oL hi5 ⟨va, vc, m3_0, ho, hR, mp, mi, hX⟩ hD hL
    replace m3_0 : Blk Hr5 b3_0 [.slice va i vc] 22 := m3_0
    replace ho : Own Hr5 H.size 60 2 (.slice va i vc) i (fr (x.take i)) := ho
    replace hR : RowsT Hr5 85 5 a (tb x) := hR
    replace mp : Blk Hr5 bp [.slice a (tb x).length c, .int .i64 (tot x)] 56 := mp
    replace mi : Blk Hr5 bi [.pointer (some ⟨bp, 0, none⟩)] 72 := mi
    replace hX : Ext H Hr5 := hX
    have hil : i < x.length := by rw [← tb_len]; exact hi5
    have hkl := ky_len (hR.wide.get hi5) (by decide)
    have hD0 := hD; have hL0 := hL
    show XC _ _ _ (upd (upd _ 12 (.agg (ints (ky (gr (tb x) i))).toArray)) 13 (.int .i64 ((gr (tb x) i).getD 4 0))) _
    refine xc_seq ?_
    refine xc_region ?_
    refine xl_heavy rfl rfl rfl (hv_alloc rfl rfl) ?_
    rintro v5_0 H5_0 ⟨b5_0, rfl, hN5_0⟩
    have gb5_0 := hX.fresh hN5_0
    have nmp_5_0 := mp.apart hN5_0
    have nm3_0_5_0 := m3_0.apart hN5_0
    have nmi_5_0 := mi.apart hN5_0
    have mp := mp.ext hN5_0.ext
    have hR := hR.ext hN5_0.ext
    have m3_0 := m3_0.ext hN5_0.ext
    have mi := mi.ext hN5_0.ext
    have ho := ho.ext hN5_0.ext
    have hD := hD.ext hN5_0.ext
    have hL := hL.ext hN5_0.ext
    have hX := hX.trans hN5_0.ext
    have m5_0 := hN5_0.blk
    refine xl_store rfl rfl (hv_storeA (vs := ints (ky (gr (tb x) i))) rfl rfl rfl (m5_0) (ints_ten hkl) (by rfl) (ints_one _)) ?_
    rintro v5_1 H5_1 ⟨hU5_1, hZ5_1⟩
    have mp := mp.off hU5_1.but (by first | exact nmp_5_0 | exact ⟨mp.ne m5_0 rfl⟩ | exact ⟨mp.ne m5_0 (by assumption)⟩ | exact ⟨Ne.symm (m5_0.ne mp (by assumption))⟩)
    have hR := hR.offT m5_0 hU5_1.but (by first | rfl | assumption)
    have m3_0 := m3_0.off hU5_1.but (by first | exact nm3_0_5_0 | exact ⟨m3_0.ne m5_0 rfl⟩ | exact ⟨m3_0.ne m5_0 (by assumption)⟩ | exact ⟨Ne.symm (m5_0.ne m3_0 (by assumption))⟩)
    have mi := mi.off hU5_1.but (by first | exact nmi_5_0 | exact ⟨mi.ne m5_0 rfl⟩ | exact ⟨mi.ne m5_0 (by assumption)⟩ | exact ⟨Ne.symm (m5_0.ne mi (by assumption))⟩)
    have ho := ho.offU m5_0 hU5_1.but (.inl rfl)
    have hD := hD.off m5_0 hU5_1.but
    have hL := hL.off m5_0 hU5_1.but
    have hX := hX.upd hU5_1.but gb5_0
    have m5_0 := hU5_1.blk
    refine xl_nil ?_
    refine xthen_normal ?_
    refine xc_region ?_
    refine xl_pure rfl rfl rfl (pv_assign (v := .int _ _) rfl rfl) ?_
    refine xl_nil ?_
    refine xasg_mk (RecKept.of hD0 hL0 hD hL) (fun Hb5 oD oL uB hD hL => ?_)
    have mp := mp.lp uB
    have hR := hR.lp uB
    have m3_0 := m3_0.lp uB
    have mi := mi.lp uB
    have ho := ho.lp uB
    have m5_0 := m5_0.lp uB
    have hX := hX.lp uB (Nat.le_succ_of_le hXs)
    have hD0 := hD; have hL0 := hL
    refine xc_block ?_
    refine xc_region ?_
    refine xl_light rfl rfl rfl (lv_load (v := .slice _ _ _) rfl rfl (ld_blk m3_0 rfl)) ?_
    refine xl_pure rfl rfl rfl (pv_indexAddr_a rfl rfl rfl (by omega)) ?_
    refine xl_light rfl rfl rfl (lv_load (v := .int _ _) rfl rfl (by exact ld_get (i := 0) m5_0 (by omega))) ?_
    refine xl_pure rfl rfl rfl (pv_move (v := .int _ _) rfl rfl) ?_
    refine xl_pure rfl rfl rfl (pv_build_s (cs := [.int _ _, .int _ _]) rfl rfl rfl) ?_
    refine xl_heavy rfl rfl rfl (hv_buildSlice (cs := [.int _ _, .int _ _]) rfl rfl rfl rfl rfl) ?_
    rintro v7_5 H7_5 ⟨b7_5, rfl, hN7_5⟩
    have gb7_5 := hX.fresh hN7_5
    have nmp_7_5 := mp.apart hN7_5
    have nm3_0_7_5 := m3_0.apart hN7_5
    have nmi_7_5 := mi.apart hN7_5
    have pm7_5_ho := ho.apartN hN7_5
    have nm5_0_7_5 := m5_0.apart hN7_5
    have mp := mp.ext hN7_5.ext
    have hR := hR.ext hN7_5.ext
    have m3_0 := m3_0.ext hN7_5.ext
    have mi := mi.ext hN7_5.ext
    have ho := ho.ext hN7_5.ext
    have hD := hD.ext hN7_5.ext
    have hL := hL.ext hN7_5.ext
    have m5_0 := m5_0.ext hN7_5.ext
    have hX := hX.trans hN7_5.ext
    have m7_5 := hN7_5.blk
    refine xl_heavy rfl rfl rfl (hv_append (size := 2) rfl rfl ho rfl m7_5.row rfl (by simp [Value.oneCell']) rfl (by decide) (by omega) (by omega) hX.size) ?_
    rintro v7_6 H7_6 ⟨hO7_6, hG7_6, -, hB7_6⟩
    have mp := mp.offT ho hG7_6 rfl
    have hR := hR.growT ho hG7_6 (by first | rfl | assumption)
    have m3_0 := m3_0.offT ho hG7_6 rfl
    have mi := mi.offT ho hG7_6 rfl
    have hD := hD.grow ho hG7_6
    have hL := hL.grow ho hG7_6
    have m5_0 := m5_0.offT ho hG7_6 rfl
    have hX := ho.grown hX hG7_6 (Nat.le_refl _)
    obtain ⟨a7_6, c7_6, rfl⟩ := hO7_6.val
    refine xl_store rfl rfl (hv_store (vs := [.slice _ _ _]) rfl rfl rfl (m3_0) rfl (Nat.le_of_ble_eq_true rfl) rfl) ?_
    rintro v7_7 H7_7 ⟨hU7_7, hZ7_7⟩
    have mp := mp.off hU7_7.but (by first | exact nmp_3_0 | exact ⟨mp.ne m3_0 rfl⟩ | exact ⟨mp.ne m3_0 (by assumption)⟩ | exact ⟨Ne.symm (m3_0.ne mp (by assumption))⟩)
    have hR := hR.offT m3_0 hU7_7.but (by first | rfl | assumption)
    have mi := mi.off hU7_7.but (by first | exact nm3_0_mi.symm | exact ⟨mi.ne m3_0 rfl⟩ | exact ⟨mi.ne m3_0 (by assumption)⟩ | exact ⟨Ne.symm (m3_0.ne mi (by assumption))⟩)
    have hD := hD.off m3_0 hU7_7.but
    have hL := hL.off m3_0 hU7_7.but
    have m5_0 := m5_0.off hU7_7.but (by first | exact nm3_0_5_0.symm | exact ⟨m5_0.ne m3_0 rfl⟩ | exact ⟨m5_0.ne m3_0 (by assumption)⟩ | exact ⟨Ne.symm (m3_0.ne m5_0 (by assumption))⟩)
    have hO7_6 := hO7_6.offU m3_0 hU7_7.but (.inl rfl)
    have hX := hX.upd hU7_7.but gb3_0
    have m3_0 := hU7_7.blk
    refine xl_nil ?_
    refine xblock_normal ?_
    exact xround_n (RecKept.of hD0 hL0 hD hL) ⟨_, _, m3_0, by have e := hO7_6; rw [gr_tb hil] at e; rw [frs_take hil, ← row2 (hg.wide.get hil)]; exact e, hR, mp, mi, hX⟩
  · skip
    clear hX mp hR m3_0 mi
    rintro Hd5 ⟨va, vc, m3_0, ho, hR, mp, mi, hX⟩ hM
    replace m3_0 : Blk Hd5 b3_0 [.slice va ((tb x).length) vc] 22 := m3_0
    replace ho : Own Hd5 H.size 60 2 (.slice va ((tb x).length) vc) ((tb x).length) (fr (x.take ((tb x).length))) := ho
    replace hR : RowsT Hd5 85 5 a (tb x) := hR
    replace mp : Blk Hd5 bp [.slice a (tb x).length c, .int .i64 (tot x)] 56 := mp
    replace mi : Blk Hd5 bi [.pointer (some ⟨bp, 0, none⟩)] 72 := mi
    replace hX : Ext H Hd5 := hX
    rw [tb_len] at ho m3_0
    rw [List.take_length] at ho
    refine xc_seq ?_
    refine xc_region ?_
    refine xl_light rfl rfl rfl (lv_load (v := .slice _ _ _) rfl rfl (ld_blk m3_0 rfl)) ?_
    refine xl_pure rfl rfl rfl (pv_assign (v := .slice _ _ _) rfl rfl) ?_
    refine xl_nil ?_
    refine xthen_normal ?_
    refine xc_retm rfl hM.h ?_
    have uM := lpw_set (o' := .deferred none) hM.h hM.r
    have mp := mp.lp uM
    have hR := hR.lp uM
    have m3_0 := m3_0.lp uM
    have mi := mi.lp uM
    have ho := ho.lp uM
    have hX := hX.lp uM hXs
    refine xret_ret ?_
    refine fin_ret (res1 (v := .slice _ _ _) rfl rfl) ?_
    exact ⟨_, _, rfl, own_rowsT (n := x.length) hg.wide ho, hX⟩
  · skip
    intro _ h; exact h.elim

theorem c13n {O : Outer} {H : Heap}  :
    FnC Try.prog 13 #[.pointer none] O H (fun v H' => v = .slice none 0 0 ∧ Ext H H') := by
  refine fn_enter (A := [.pointer none]) Try.func13 rfl rfl ?_
  have hX := Ext.refl H
  refine xc_seq ?_
  refine xc_region ?_
  refine xl_pure rfl rfl rfl (pv_assign (v := .slice _ _ _) rfl rfl) ?_
  refine xl_nil ?_
  refine xthen_normal ?_
  refine xc_seq ?_
  refine xc_seq ?_
  refine xc_region ?_
  refine xl_pure rfl rfl rfl (pv_move (v := .pointer _) rfl rfl) ?_
  refine xl_pure rfl rfl rfl (pv_eql_nn rfl rfl rfl) ?_
  refine xl_nil ?_
  refine xthen_normal ?_
  refine xc_cond_t rfl ?_
  refine xc_seq ?_
  refine xc_region ?_
  refine xl_pure rfl rfl rfl (pv_assign (v := .slice _ _ _) rfl rfl) ?_
  refine xl_nil ?_
  refine xthen_normal ?_
  refine xc_ret ?_
  refine xthen_ret ?_
  refine fin_ret (res1 (v := .slice _ _ _) rfl rfl) ?_
  exact ⟨rfl, hX⟩

theorem c16 {O : Outer} {H : Heap} {bp c : Nat} {a : Option Addr} {x : List (List Int)} (mp : Blk H bp [.slice a (tb x).length c, .int .i64 (tot x)] 56) (hR : RowsT H 85 5 a (tb x)) (hc : (tb x).length ≤ c) (hna : a = none → c = 0) (hl : (tb x).length < 1000000) (hg : Goo x) :
    FnC Try.prog 16 #[.pointer (some ⟨bp, 0, none⟩)] O H (fun v H' => ∃ b, v = .pointer (some ⟨b, 0, none⟩) ∧ Blk H' b [.slice a (tb x).length c, .int .i64 (tot x)] 56 ∧ Fresh H b ∧ Ext H H') := by
  refine fn_enter (A := [.pointer (some ⟨bp, 0, none⟩)]) Try.func16 rfl rfl ?_
  have hX := Ext.refl H
  refine xc_seq ?_
  refine xc_region ?_
  refine xl_pure rfl rfl rfl (pv_assign (v := .pointer _) rfl rfl) ?_
  refine xl_nil ?_
  refine xthen_normal ?_
  refine xc_seq ?_
  refine xc_seq ?_
  refine xc_region ?_
  refine xl_pure rfl rfl rfl (pv_move (v := .pointer _) rfl rfl) ?_
  refine xl_pure rfl rfl rfl (pv_eql_pn rfl rfl rfl) ?_
  refine xl_nil ?_
  refine xthen_normal ?_
  refine xc_cond_f rfl ?_
  refine xc_skip ?_
  refine xthen_normal ?_
  refine xc_seq ?_
  refine xp_start rfl (by repeat (first | with_reducible exact np_fin | with_reducible refine np_then ?_ | with_reducible refine np_block ?_)) (by kernel_rfl) ?_
  refine xp_pure (i := 0) rfl (by kernel_rfl) (by kernel_rfl) rfl rfl rfl (pv_move (v := .pointer _) rfl rfl) ?_
  refine xp_pure (i := 1) rfl (by kernel_rfl) (by kernel_rfl) rfl rfl rfl (pv_nilCheck_p rfl rfl) ?_
  refine xp_pure (i := 2) rfl (by kernel_rfl) (by kernel_rfl) rfl rfl rfl (pv_fieldAddr rfl rfl) ?_
  refine xp_pure (i := 6) rfl (by kernel_rfl) (by kernel_rfl) rfl rfl rfl (pv_move (v := .pointer _) rfl rfl) ?_
  refine xp_pure (i := 7) rfl (by kernel_rfl) (by kernel_rfl) rfl rfl rfl (pv_nilCheck_p rfl rfl) ?_
  refine xp_pure (i := 8) rfl (by kernel_rfl) (by kernel_rfl) rfl rfl rfl (pv_fieldAddr rfl rfl) ?_
  refine xp_light (i := 9) rfl (by kernel_rfl) (by kernel_rfl) rfl rfl rfl (lv_load (v := .int _ _) rfl rfl (ld_blk mp rfl)) ?_
  refine xp_heavy (i := 3) (by kernel_rfl) ?_
  refine xph_val rfl rfl rfl rfl (hv_call (g := 32) rfl rfl (c32 mp) rfl) (pk (by kernel_rfl) pn) ?_
  rintro v3_3 H3_3 ⟨b3_3, rfl, hN3_3⟩
  have mp := mp.ext hN3_3.ext
  have hR := hR.ext hN3_3.ext
  have hX := hX.trans hN3_3.ext
  have m3_3 := hN3_3.blk
  refine ⟨(okc (lv_load (v := .int _ _) rfl rfl (ld_blk mp rfl)) okn), ?_⟩
  refine xp_pure (i := 4) rfl (by kernel_rfl) (by kernel_rfl) rfl rfl rfl (pv_nilCheck_p rfl rfl) ?_
  refine xp_light (i := 5) rfl (by kernel_rfl) (by kernel_rfl) rfl rfl rfl (lv_load (v := .agg _) rfl rfl (ld_blk_a m3_3 rfl rfl)) ?_
  refine xp_pure (i := 10) rfl (by kernel_rfl) (by kernel_rfl) rfl rfl rfl (pv_build_s (cs := [.slice _ _ _, .int _ _]) rfl rfl rfl) ?_
  refine xp_heavy (i := 11) (by kernel_rfl) ?_
  refine xph_val rfl rfl rfl rfl (hv_box rfl rfl) (pk (by kernel_rfl) (pk (by kernel_rfl) pn)) ?_
  rintro v3_11 H3_11 ⟨b3_11, rfl, hN3_11⟩
  have gb3_11 := hX.fresh hN3_11
  have nmp_3_11 := mp.apart hN3_11
  have nm3_3_3_11 := m3_3.apart hN3_11
  have mp := mp.ext hN3_11.ext
  have hR := hR.ext hN3_11.ext
  have m3_3 := m3_3.ext hN3_11.ext
  have hX := hX.trans hN3_11.ext
  have m3_11 := hN3_11.blk
  refine ⟨(okc (lv_load (v := .agg _) rfl rfl (ld_blk_a m3_3 rfl rfl)) (okc (lv_load (v := .int _ _) rfl rfl (ld_blk mp rfl)) okn)), ?_⟩
  refine xp_pure (i := 12) rfl (by kernel_rfl) (by kernel_rfl) rfl rfl rfl (pv_assign (v := .pointer _) rfl rfl) ?_
  refine xp_done (by kernel_rfl) ?_
  refine xthen_normal ?_
  refine xc_ret ?_
  refine fin_ret (res1 (v := .pointer _) rfl rfl) ?_
  exact ⟨_, rfl, m3_11, gb3_11, hX⟩

theorem c16n {O : Outer} {H : Heap}  :
    FnC Try.prog 16 #[.pointer none] O H (fun v H' => ∃ b, v = .pointer (some ⟨b, 0, none⟩) ∧ Blk H' b [.slice none 0 0, .int .i64 0] 56 ∧ Fresh H b ∧ Ext H H') := by
  refine fn_enter (A := [.pointer none]) Try.func16 rfl rfl ?_
  have hX := Ext.refl H
  refine xc_seq ?_
  refine xc_region ?_
  refine xl_pure rfl rfl rfl (pv_assign (v := .pointer _) rfl rfl) ?_
  refine xl_nil ?_
  refine xthen_normal ?_
  refine xc_seq ?_
  refine xc_seq ?_
  refine xc_region ?_
  refine xl_pure rfl rfl rfl (pv_move (v := .pointer _) rfl rfl) ?_
  refine xl_pure rfl rfl rfl (pv_eql_nn rfl rfl rfl) ?_
  refine xl_nil ?_
  refine xthen_normal ?_
  refine xc_cond_t rfl ?_
  refine xc_seq ?_
  refine xc_region ?_
  refine xl_pure rfl rfl rfl (pv_build_s (cs := [.slice _ _ _, .int _ _]) rfl rfl rfl) ?_
  refine xl_heavy rfl rfl rfl (hv_box rfl rfl) ?_
  rintro v2_1 H2_1 ⟨b2_1, rfl, hN2_1⟩
  have gb2_1 := hX.fresh hN2_1
  have hX := hX.trans hN2_1.ext
  have m2_1 := hN2_1.blk
  refine xl_pure rfl rfl rfl (pv_assign (v := .pointer _) rfl rfl) ?_
  refine xl_nil ?_
  refine xthen_normal ?_
  refine xc_ret ?_
  refine xthen_ret ?_
  refine fin_ret (res1 (v := .pointer _) rfl rfl) ?_
  exact ⟨_, rfl, m2_1, gb2_1, hX⟩

theorem c18 {O : Outer} {H : Heap} {bp c : Nat} {a : Option Addr} {x : List (List Int)} (mp : Blk H bp [.slice a (tb x).length c, .int .i64 (tot x)] 56) (hR : RowsT H 85 5 a (tb x)) (hc : (tb x).length ≤ c) (hna : a = none → c = 0) (hl : (tb x).length < 1000000) (hg : Goo x) {ap : Option Addr} {cp : Nat} {P : List (List Int)} (hP : RowsO H bp ap 3 P) (hPl : P.length ≤ 1000) :
    FnC Try.prog 18 #[.pointer (some ⟨bp, 0, none⟩), .slice ap P.length cp] O H (fun v H' => ∃ k e y a' c', v = .tuple #[.int .i64 (k : Nat), .int .i64 e] ∧ Mvs x P k e y ∧ But bp H H' ∧ Blk H' bp [.slice a' (tb y).length c', .int .i64 (tot y)] 56 ∧ RowsT H' 85 5 a' (tb y) ∧ (tb y).length ≤ c' ∧ (a' = none → c' = 0)) := by
  have hR0 := hR
  refine fn_enter (A := [.pointer (some ⟨bp, 0, none⟩), .slice ap P.length cp]) Try.func18 rfl rfl ?_
  have hX := But.refl bp H
  refine xc_seq ?_
  refine xc_region ?_
  refine xl_pure rfl rfl rfl (pv_assign (v := .int _ _) rfl rfl) ?_
  refine xl_pure rfl rfl rfl (pv_assign (v := .int _ _) rfl rfl) ?_
  refine xl_nil ?_
  refine xthen_normal ?_
  refine xc_seq ?_
  refine xc_seq ?_
  refine xc_region ?_
  refine xl_pure rfl rfl rfl (pv_move (v := .pointer _) rfl rfl) ?_
  refine xl_pure rfl rfl rfl (pv_eql_pn rfl rfl rfl) ?_
  refine xl_nil ?_
  refine xthen_normal ?_
  refine xc_cond_f rfl ?_
  refine xc_skip ?_
  refine xthen_normal ?_
  refine xc_seq ?_
  refine xc_region ?_
  refine xl_pure rfl rfl rfl (pv_move (v := .pointer _) rfl rfl) ?_
  refine xl_heavy rfl rfl rfl (hv_call (g := 16) rfl rfl (c16 mp hR hc hna hl hg) rfl) ?_
  rintro v3_1 H3_1 ⟨b3_1, rfl, hM3_1, hF3_1, hE3_1⟩
  have mp := mp.ext hE3_1
  have hR := hR.ext hE3_1
  have hR0 := hR0.ext hE3_1
  have hX := hX.transE hE3_1
  refine xl_pure rfl rfl rfl (pv_nilCheck_p rfl rfl) ?_
  refine xl_light rfl rfl rfl (lv_load (v := .agg _) rfl rfl (ld_blk_a hM3_1 rfl rfl)) ?_
  refine xl_heavy rfl rfl rfl (hv_alloc rfl rfl) ?_
  rintro v3_4 H3_4 ⟨b3_4, rfl, hN3_4⟩
  have gb3_4 := hX.fresh hN3_4
  have nmp_3_4 := mp.apart hN3_4
  have mp := mp.ext hN3_4.ext
  have hR := hR.ext hN3_4.ext
  have hR0 := hR0.ext hN3_4.ext
  have hX := hX.transE hN3_4.ext
  have m3_4 := hN3_4.blk
  refine xl_store rfl rfl (hv_storeA (vs := [.slice _ _ _, .int _ _]) rfl rfl rfl (m3_4) rfl (by rfl) rfl) ?_
  rintro v3_5 H3_5 ⟨hU3_5, hZ3_5⟩
  have mp := mp.off hU3_5.but (by first | exact nmp_3_4 | exact ⟨mp.ne m3_4 rfl⟩ | exact ⟨mp.ne m3_4 (by assumption)⟩ | exact ⟨Ne.symm (m3_4.ne mp (by assumption))⟩)
  have hR := hR.offT m3_4 hU3_5.but (by first | rfl | assumption)
  have hR0 := hR0.offT m3_4 hU3_5.but (by first | rfl | assumption)
  have hX := hX.upd hU3_5.but gb3_4
  have m3_4 := hU3_5.blk
  refine xl_nil ?_
  refine xthen_normal ?_
  refine xc_seq ?_
  refine xc_seq ?_
  refine xc_region ?_
  refine xl_pure rfl rfl rfl (pv_move (v := .slice _ _ _) rfl rfl) ?_
  refine xl_pure rfl rfl rfl (pv_len_l rfl rfl) ?_
  refine xl_pure rfl rfl rfl (pv_move (v := .int _ _) rfl rfl) ?_
  refine xl_nil ?_
  refine xthen_normal ?_
  refine xc_block ?_
  refine xc_loop (τ := Nat × Option Addr × Nat) (fun t => [(0, .pointer (some ⟨bp, 0, none⟩)), (1, .slice ap P.length cp), (6, .pointer (some ⟨b3_4, 0, none⟩)), (16, .slice ap P.length cp), (17, .int .i64 (P.length : Nat)), (18, .int .i64 (t.1 : Nat))]) (fun t H' => (t.1 ≤ P.length) ∧ (∀ j, j < t.1 → mer x P j = 0) ∧ (Blk H' bp [.slice t.2.1 (tb (mst x P t.1)).length t.2.2, .int .i64 (tot (mst x P t.1))] 56) ∧ (RowsT H' 85 5 t.2.1 (tb (mst x P t.1))) ∧ ((tb (mst x P t.1)).length ≤ t.2.2) ∧ (t.2.1 = none → t.2.2 = 0) ∧ (Blk H' b3_4 [.slice a (tb x).length c, .int .i64 (tot x)] 56) ∧ (RowsT H' 85 5 a (tb x)) ∧ (But bp H H')) (fun t H' => P.length - t.1) (0, a, c) ?_ ?_ ?_
  · exact ⟨rfl, rfl, rfl, rfl, rfl, rfl, trivial⟩
  · skip
    exact ⟨Nat.zero_le _, fun j hj => absurd hj (by omega), mp, hR, hc, hna, m3_4, hR0, hX⟩
  · intro σ
    clear hX mp hR hR0 m3_4
    rintro ⟨i, a1, c1⟩ Hl5 ⟨hi, hall, mp, hR, hc1, hna1, m3_4, hR0, hX⟩
    replace hi : i ≤ P.length := hi
    replace hall : ∀ j, j < i → mer x P j = 0 := hall
    replace mp : Blk Hl5 bp [.slice a1 (tb (mst x P i)).length c1, .int .i64 (tot (mst x P i))] 56 := mp
    replace hR : RowsT Hl5 85 5 a1 (tb (mst x P i)) := hR
    replace hc1 : (tb (mst x P i)).length ≤ c1 := hc1
    replace hna1 : a1 = none → c1 = 0 := hna1
    replace m3_4 : Blk Hl5 b3_4 [.slice a (tb x).length c, .int .i64 (tot x)] 56 := m3_4
    replace hR0 : RowsT Hl5 85 5 a (tb x) := hR0
    replace hX : But bp H Hl5 := hX
    obtain ⟨hgi, hli, hti⟩ := goo_mst (P := P) (i := i) hg
    obtain ⟨bl, ofl, hPe⟩ := (hP.but hX).at'
    have hli2 : (tb (mst x P i)).length < 1000000 := by rw [tb_len] at hl ⊢; omega
    show XC _ _ _ (upds σ [(0, .pointer (some ⟨bp, 0, none⟩)), (1, .slice ap P.length cp), (6, .pointer (some ⟨b3_4, 0, none⟩)), (16, .slice ap P.length cp), (17, .int .i64 (P.length : Nat)), (18, .int .i64 (i : Nat))]) _
    refine xc_seq ?_
    refine xc_region ?_
    refine xl_dec rfl rfl rfl (pv_lss rfl rfl rfl) (fun h5_0 => ?_) (fun h5_0 => ?_)
    · skip
      refine xl_nil ?_
      refine xthen_normal ?_
      refine xc_seq ?_
      refine xc_cond_t rfl ?_
      refine xc_skip ?_
      refine xthen_normal ?_
      refine xc_seq ?_
      refine xc_block ?_
      refine xc_seq ?_
      have hr3 := hP.rows.1.get (show i < P.length by omega)
      refine xc_region ?_
      refine xl_pure rfl rfl rfl (pv_move (v := .int _ _) rfl rfl) ?_
      refine xl_pure rfl rfl rfl (pv_indexAddr_l rfl (sl_eq (hPe (by omega)).1) rfl (by omega)) ?_
      refine xl_light rfl rfl rfl (lv_load (v := .agg _) rfl rfl (by exact ld_row' (hPe (by omega)).2 hP.rows.1 (by omega))) ?_
      refine xl_heavy rfl rfl rfl (hv_alloc rfl rfl) ?_
      rintro v6_3 H6_3 ⟨b6_3, rfl, hN6_3⟩
      have gb6_3 := hX.fresh hN6_3
      have nmp_6_3 := mp.apart hN6_3
      have nm3_4_6_3 := m3_4.apart hN6_3
      have mp := mp.ext hN6_3.ext
      have hR := hR.ext hN6_3.ext
      have hR0 := hR0.ext hN6_3.ext
      have m3_4 := m3_4.ext hN6_3.ext
      have hX := hX.transE hN6_3.ext
      have m6_3 := hN6_3.blk
      refine xl_pure rfl rfl rfl (pv_assign (v := .int _ _) rfl rfl) ?_
      refine xl_store rfl rfl (hv_storeA (vs := ints (gr P i)) rfl rfl rfl (m6_3) (ints_ten hr3) (by rfl) (ints_one _)) ?_
      rintro v6_5 H6_5 ⟨hU6_5, hZ6_5⟩
      have mp := mp.off hU6_5.but (by first | exact nmp_6_3 | exact ⟨mp.ne m6_3 rfl⟩ | exact ⟨mp.ne m6_3 (by assumption)⟩ | exact ⟨Ne.symm (m6_3.ne mp (by assumption))⟩)
      have hR := hR.offT m6_3 hU6_5.but (by first | rfl | assumption)
      have hR0 := hR0.offT m6_3 hU6_5.but (by first | rfl | assumption)
      have m3_4 := m3_4.off hU6_5.but (by first | exact nm3_4_6_3 | exact ⟨m3_4.ne m6_3 rfl⟩ | exact ⟨m3_4.ne m6_3 (by assumption)⟩ | exact ⟨Ne.symm (m6_3.ne m3_4 (by assumption))⟩)
      have hX := hX.upd hU6_5.but gb6_3
      have m6_3 := hU6_5.blk
      refine xl_nil ?_
      refine xthen_normal ?_
      refine xc_seq ?_
      refine xc_region ?_
      refine xl_pure rfl rfl rfl (pv_move (v := .pointer _) rfl rfl) ?_
      refine xl_pure rfl rfl rfl (pv_fieldAddr rfl rfl) ?_
      refine xl_light rfl rfl rfl (lv_load (v := .int _ _) rfl rfl (by exact ld_get (i := 0) m6_3 (by omega))) ?_
      refine xl_pure rfl rfl rfl (pv_fieldAddr rfl rfl) ?_
      refine xl_light rfl rfl rfl (lv_load (v := .int _ _) rfl rfl (by exact ld_get (i := 1) m6_3 (by omega))) ?_
      refine xl_pure rfl rfl rfl (pv_fieldAddr rfl rfl) ?_
      refine xl_light rfl rfl rfl (lv_load (v := .int _ _) rfl rfl (by exact ld_get (i := 2) m6_3 (by omega))) ?_
      refine xl_heavy rfl rfl rfl (hv_call (g := 17) rfl rfl (c17 mp hR hc1 hna1 hli2 hgi ((gr P i).getD 0 0) ((gr P i).getD 1 0) ((gr P i).getD 2 0)) rfl) ?_
      rintro v7_7 H7_7 ⟨a7_7, c7_7, rfl, hB7_7, hT7_7, hR7_7, hc7_7, hna7_7⟩
      have hR := hR.offT mp hB7_7 (by first | rfl | assumption)
      have hR0 := hR0.offT mp hB7_7 (by first | rfl | assumption)
      have m3_4 := m3_4.off hB7_7 (by first | exact nmp_3_4.symm | exact ⟨m3_4.ne mp rfl⟩ | exact ⟨m3_4.ne mp (by assumption)⟩ | exact ⟨Ne.symm (mp.ne m3_4 (by assumption))⟩)
      have m6_3 := m6_3.off hB7_7 (by first | exact nmp_6_3.symm | exact ⟨m6_3.ne mp rfl⟩ | exact ⟨m6_3.ne mp (by assumption)⟩ | exact ⟨Ne.symm (mp.ne m6_3 (by assumption))⟩)
      have hX := hX.trans hB7_7
      have mp := hT7_7
      refine xl_pure rfl rfl rfl (pv_assign (v := .int _ _) rfl rfl) ?_
      refine xl_nil ?_
      refine xthen_normal ?_
      refine xc_seq ?_
      refine xc_region ?_
      refine xl_pure rfl rfl rfl (pv_move (v := .int _ _) rfl rfl) ?_
      refine xl_ndec rfl rfl rfl (pv_neq rfl rfl rfl) (fun h8_1 => ?_) (fun h8_1 => ?_)
      · skip
        refine xl_nil ?_
        refine xthen_normal ?_
        refine xc_cond_f rfl ?_
        refine xc_skip ?_
        refine xblock_normal ?_
        refine xthen_normal ?_
        refine xc_region ?_
        refine xl_pure rfl rfl rfl (pv_add rfl rfl rfl (fit_i64 (by omega))) ?_
        refine xl_pure rfl rfl rfl (pv_move (v := .int _ _) rfl rfl) ?_
        refine xl_nil ?_
        refine xthen_normal ?_
        exact ⟨(i + 1, _, _), ⟨rfl, rfl, rfl, rfl, rfl, rfl, trivial⟩, ⟨by (try simp only); omega, all_next hall h8_1, by rw [mst_take (by omega)]; exact mp, by rw [mst_take (by omega)]; exact hR7_7, by rw [mst_take (by omega)]; exact hc7_7, hna7_7, m3_4, hR0, hX⟩, by (try simp only); omega⟩
      · skip
        refine xl_nil ?_
        refine xthen_normal ?_
        refine xc_cond_t rfl ?_
        refine xc_seq ?_
        refine xc_region ?_
        refine xl_pure rfl rfl rfl (pv_move (v := .pointer _) rfl rfl) ?_
        refine xl_light rfl rfl rfl (lv_load (v := .agg _) rfl rfl (ld_blk_a m3_4 rfl rfl)) ?_
        refine xl_pure rfl rfl rfl (pv_nilCheck_p rfl rfl) ?_
        refine xl_store rfl rfl (hv_storeA (vs := [.slice _ _ _, .int _ _]) rfl rfl rfl (mp) rfl (by rfl) rfl) ?_
        rintro v9_3 H9_3 ⟨hU9_3, hZ9_3⟩
        have hR := hR.offT mp hU9_3.but (by first | rfl | assumption)
        have hR0 := hR0.offT mp hU9_3.but (by first | rfl | assumption)
        have m3_4 := m3_4.off hU9_3.but (by first | exact nmp_3_4.symm | exact ⟨m3_4.ne mp rfl⟩ | exact ⟨m3_4.ne mp (by assumption)⟩ | exact ⟨Ne.symm (mp.ne m3_4 (by assumption))⟩)
        have m6_3 := m6_3.off hU9_3.but (by first | exact nmp_6_3.symm | exact ⟨m6_3.ne mp rfl⟩ | exact ⟨m6_3.ne mp (by assumption)⟩ | exact ⟨Ne.symm (mp.ne m6_3 (by assumption))⟩)
        have hR7_7 := hR7_7.offT mp hU9_3.but (by first | rfl | assumption)
        have hX := hX.trans hU9_3.but
        have mp := hU9_3.blk
        refine xl_nil ?_
        refine xthen_normal ?_
        refine xc_seq ?_
        refine xc_region ?_
        refine xl_pure rfl rfl rfl (pv_move (v := .int _ _) rfl rfl) ?_
        refine xl_pure rfl rfl rfl (pv_move (v := .int _ _) rfl rfl) ?_
        refine xl_pure rfl rfl rfl (pv_assign (v := .int _ _) rfl rfl) ?_
        refine xl_pure rfl rfl rfl (pv_assign (v := .int _ _) rfl rfl) ?_
        refine xl_nil ?_
        refine xthen_normal ?_
        refine xc_ret ?_
        refine xblock_ret ?_
        refine xthen_ret ?_
        refine xthen_ret ?_
        refine xblock_ret ?_
        refine xthen_ret ?_
        refine fin_ret (res2 (v := .int _ _) (x := .int _ _) rfl rfl rfl) ?_
        exact ⟨i, _, x, a, c, rfl, ⟨hall, .inr ⟨by omega, rfl, h8_1, rfl⟩⟩, hX, mp, hR0, hc, hna⟩
    · skip
      refine xl_nil ?_
      refine xthen_normal ?_
      refine xc_seq ?_
      refine xc_cond_f rfl ?_
      refine xc_exit ?_
      refine xthen_exit ?_
      refine xthen_exit ?_
      refine xblock_same ?_
      refine xthen_normal ?_
      refine xc_seq ?_
      refine xc_region ?_
      refine xl_pure rfl rfl rfl (pv_move (v := .slice _ _ _) rfl rfl) ?_
      refine xl_pure rfl rfl rfl (pv_len_l rfl rfl) ?_
      refine xl_pure rfl rfl rfl (pv_assign (v := .int _ _) rfl rfl) ?_
      refine xl_pure rfl rfl rfl (pv_assign (v := .int _ _) rfl rfl) ?_
      refine xl_nil ?_
      refine xthen_normal ?_
      refine xc_ret ?_
      refine fin_ret (res2 (v := .int _ _) (x := .int _ _) rfl rfl rfl) ?_
      obtain rfl : i = P.length := by omega
      exact ⟨_, _, _, a1, c1, rfl, ⟨hall, .inl ⟨rfl, rfl, rfl⟩⟩, hX, mp, hR, hc1, hna1⟩

theorem c18n {O : Outer} {H : Heap} {va : Value} :
    FnC Try.prog 18 #[.pointer none, va] O H (fun v H' => v = .tuple #[.int .i64 0, .int .i64 1] ∧ Ext H H') := by
  refine fn_enter (A := [.pointer none, va]) Try.func18 rfl rfl ?_
  have hX := Ext.refl H
  refine xc_seq ?_
  refine xc_region ?_
  refine xl_pure rfl rfl rfl (pv_assign (v := .int _ _) rfl rfl) ?_
  refine xl_pure rfl rfl rfl (pv_assign (v := .int _ _) rfl rfl) ?_
  refine xl_nil ?_
  refine xthen_normal ?_
  refine xc_seq ?_
  refine xc_seq ?_
  refine xc_region ?_
  refine xl_pure rfl rfl rfl (pv_move (v := .pointer _) rfl rfl) ?_
  refine xl_pure rfl rfl rfl (pv_eql_nn rfl rfl rfl) ?_
  refine xl_nil ?_
  refine xthen_normal ?_
  refine xc_cond_t rfl ?_
  refine xc_seq ?_
  refine xc_region ?_
  refine xl_pure rfl rfl rfl (pv_assign (v := .int _ _) rfl rfl) ?_
  refine xl_pure rfl rfl rfl (pv_assign (v := .int _ _) rfl rfl) ?_
  refine xl_nil ?_
  refine xthen_normal ?_
  refine xc_ret ?_
  refine xthen_ret ?_
  refine fin_ret (res2 (v := .int _ _) (x := .int _ _) rfl rfl rfl) ?_
  exact ⟨rfl, hX⟩

theorem c20 {O : Outer} {H : Heap} {a : Option Addr} {c : Nat} {x : List (List Int)} (hx : RowsT H 60 2 a x) (hg : Goo x) (hl : x.length < 1000000) (hc : x.length ≤ c) {ap : Option Addr} {cp : Nat} {P : List (List Int)} (hP : Rows H ap 3 P) (hPl : P.length ≤ 1000) :
    FnC Try.prog 20 #[.slice a x.length c, .slice ap P.length cp] O H (fun v H' => ∃ k e y a' c', v = .tuple #[.slice a' y.length c', .int .i64 (k : Nat), .int .i64 e] ∧ Mvs x P k e y ∧ RowsT H' 60 2 a' y ∧ y.length ≤ c' ∧ Ext H H') := by
  refine fn_enter (A := [.slice a x.length c, .slice ap P.length cp]) Try.func20 rfl rfl ?_
  have hX := Ext.refl H
  refine xc_seq ?_
  refine xc_region ?_
  refine xl_pure rfl rfl rfl (pv_assign (v := .slice _ _ _) rfl rfl) ?_
  refine xl_pure rfl rfl rfl (pv_assign (v := .int _ _) rfl rfl) ?_
  refine xl_pure rfl rfl rfl (pv_assign (v := .int _ _) rfl rfl) ?_
  refine xl_nil ?_
  refine xthen_normal ?_
  refine xc_seq ?_
  refine xc_region ?_
  refine xl_pure rfl rfl rfl (pv_move (v := .slice _ _ _) rfl rfl) ?_
  refine xl_pure rfl rfl rfl (pv_assign (v := .slice _ _ _) rfl rfl) ?_
  refine xl_nil ?_
  refine xthen_normal ?_
  refine xc_seq ?_
  refine xc_seq ?_
  refine xc_region ?_
  refine xl_pure rfl rfl rfl (pv_assign (v := .int _ _) rfl rfl) ?_
  refine xl_nil ?_
  refine xthen_normal ?_
  refine xc_block ?_
  refine xc_loop (τ := Nat × Option Addr × Nat) (fun t => [(0, .slice a x.length c), (1, .slice ap P.length cp), (7, .slice t.2.1 (mst x P t.1).length t.2.2), (8, .int .i64 (t.1 : Nat))]) (fun t H' => (t.1 ≤ P.length) ∧ (∀ j, j < t.1 → mer x P j = 0) ∧ (RowsT H' 60 2 t.2.1 (mst x P t.1)) ∧ ((mst x P t.1).length ≤ t.2.2) ∧ (Ext H H')) (fun t H' => P.length - t.1) (0, a, c) ?_ ?_ ?_
  · exact ⟨rfl, rfl, rfl, rfl, trivial⟩
  · skip
    exact ⟨Nat.zero_le _, fun j hj => absurd hj (by omega), hx.ext hX, hc, hX⟩
  · intro σ
    clear hX
    rintro ⟨i, a1, c1⟩ Hl3 ⟨hi, hall, hQ, hc1, hX⟩
    replace hi : i ≤ P.length := hi
    replace hall : ∀ j, j < i → mer x P j = 0 := hall
    replace hQ : RowsT Hl3 60 2 a1 (mst x P i) := hQ
    replace hc1 : (mst x P i).length ≤ c1 := hc1
    replace hX : Ext H Hl3 := hX
    obtain ⟨hgi, hli, hti⟩ := goo_mst (P := P) (i := i) hg
    obtain ⟨bl, ofl, hPe⟩ := (hP.ext hX).at'
    show XC _ _ _ (upds σ [(0, .slice a x.length c), (1, .slice ap P.length cp), (7, .slice a1 (mst x P i).length c1), (8, .int .i64 (i : Nat))]) _
    refine xc_seq ?_
    refine xc_seq ?_
    refine xc_region ?_
    refine xl_pure rfl rfl rfl (pv_move (v := .int _ _) rfl rfl) ?_
    refine xl_pure rfl rfl rfl (pv_move (v := .slice _ _ _) rfl rfl) ?_
    refine xl_pure rfl rfl rfl (pv_len_l rfl rfl) ?_
    refine xl_dec rfl rfl rfl (pv_lss rfl rfl rfl) (fun h3_3 => ?_) (fun h3_3 => ?_)
    · skip
      refine xl_nil ?_
      refine xthen_normal ?_
      refine xc_cond_t rfl ?_
      refine xc_skip ?_
      refine xthen_normal ?_
      refine xc_seq ?_
      refine xc_block ?_
      refine xc_seq ?_
      refine xp_start rfl (by repeat (first | with_reducible exact np_fin | with_reducible refine np_then ?_ | with_reducible refine np_block ?_)) (by kernel_rfl) ?_
      refine xp_pure (i := 0) rfl (by kernel_rfl) (by kernel_rfl) rfl rfl rfl (pv_move (v := .slice _ _ _) rfl rfl) ?_
      refine xp_pure (i := 1) rfl (by kernel_rfl) (by kernel_rfl) rfl rfl rfl (pv_move (v := .slice _ _ _) rfl rfl) ?_
      refine xp_pure (i := 2) rfl (by kernel_rfl) (by kernel_rfl) rfl rfl rfl (pv_move (v := .int _ _) rfl rfl) ?_
      refine xp_pure (i := 3) rfl (by kernel_rfl) (by kernel_rfl) rfl rfl rfl (pv_indexAddr_l rfl (sl_eq (hPe (by omega)).1) rfl (by omega)) ?_
      refine xp_pure (i := 4) rfl (by kernel_rfl) (by kernel_rfl) rfl rfl rfl (pv_fieldAddr rfl rfl) ?_
      refine xp_light (i := 5) rfl (by kernel_rfl) (by kernel_rfl) rfl rfl rfl (lv_load (v := .int _ _) rfl rfl (by exact ld_num (j := 0) (hPe (by omega)).2 hP.1 (by omega) (by decide))) ?_
      refine xp_pure (i := 6) rfl (by kernel_rfl) (by kernel_rfl) rfl rfl rfl (pv_move (v := .slice _ _ _) rfl rfl) ?_
      refine xp_pure (i := 7) rfl (by kernel_rfl) (by kernel_rfl) rfl rfl rfl (pv_move (v := .int _ _) rfl rfl) ?_
      refine xp_pure (i := 8) rfl (by kernel_rfl) (by kernel_rfl) rfl rfl rfl (pv_indexAddr_l rfl (sl_eq (hPe (by omega)).1) rfl (by omega)) ?_
      refine xp_pure (i := 9) rfl (by kernel_rfl) (by kernel_rfl) rfl rfl rfl (pv_fieldAddr rfl rfl) ?_
      refine xp_light (i := 10) rfl (by kernel_rfl) (by kernel_rfl) rfl rfl rfl (lv_load (v := .int _ _) rfl rfl (by exact ld_num (j := 1) (hPe (by omega)).2 hP.1 (by omega) (by decide))) ?_
      refine xp_pure (i := 11) rfl (by kernel_rfl) (by kernel_rfl) rfl rfl rfl (pv_move (v := .slice _ _ _) rfl rfl) ?_
      refine xp_pure (i := 12) rfl (by kernel_rfl) (by kernel_rfl) rfl rfl rfl (pv_move (v := .int _ _) rfl rfl) ?_
      refine xp_pure (i := 13) rfl (by kernel_rfl) (by kernel_rfl) rfl rfl rfl (pv_indexAddr_l rfl (sl_eq (hPe (by omega)).1) rfl (by omega)) ?_
      refine xp_pure (i := 14) rfl (by kernel_rfl) (by kernel_rfl) rfl rfl rfl (pv_fieldAddr rfl rfl) ?_
      refine xp_light (i := 15) rfl (by kernel_rfl) (by kernel_rfl) rfl rfl rfl (lv_load (v := .int _ _) rfl rfl (by exact ld_num (j := 2) (hPe (by omega)).2 hP.1 (by omega) (by decide))) ?_
      refine xp_heavy (i := 16) (by kernel_rfl) ?_
      refine xph_val rfl rfl rfl rfl (hv_call (g := 28) rfl rfl (c28 hQ hgi (by omega) hc1 _ _ _) rfl) (pd (by kernel_rfl) (pd (by kernel_rfl) (pd (by kernel_rfl) pn))) ?_
      rintro v5_16 H5_16 ⟨a5_16, c5_16, rfl, hQ5_16, hc5_16, hE5_16⟩
      have hQ := hQ.ext hE5_16
      have hX := hX.trans hE5_16
      refine ⟨okn, ?_⟩
      refine xp_pure (i := 17) rfl (by kernel_rfl) (by kernel_rfl) rfl rfl rfl (pv_move (v := .tuple _) rfl rfl) ?_
      refine xp_pure (i := 18) rfl (by kernel_rfl) (by kernel_rfl) rfl rfl rfl (pv_extract (v := .slice _ _ _) rfl rfl rfl) ?_
      refine xp_pure (i := 19) rfl (by kernel_rfl) (by kernel_rfl) rfl rfl rfl (pv_extract (v := .int _ _) rfl rfl rfl) ?_
      refine xp_pure (i := 20) rfl (by kernel_rfl) (by kernel_rfl) rfl rfl rfl (pv_assign (v := .slice _ _ _) rfl rfl) ?_
      refine xp_pure (i := 21) rfl (by kernel_rfl) (by kernel_rfl) rfl rfl rfl (pv_assign (v := .int _ _) rfl rfl) ?_
      refine xp_done (by kernel_rfl) ?_
      refine xthen_normal ?_
      refine xc_seq ?_
      refine xc_seq ?_
      refine xc_region ?_
      refine xl_pure rfl rfl rfl (pv_move (v := .int _ _) rfl rfl) ?_
      refine xl_ndec rfl rfl rfl (pv_neq rfl rfl rfl) (fun h6_1 => ?_) (fun h6_1 => ?_)
      · skip
        refine xl_nil ?_
        refine xthen_normal ?_
        refine xc_cond_f rfl ?_
        refine xc_skip ?_
        refine xthen_normal ?_
        refine xc_region ?_
        refine xl_pure rfl rfl rfl (pv_move (v := .slice _ _ _) rfl rfl) ?_
        refine xl_pure rfl rfl rfl (pv_assign (v := .slice _ _ _) rfl rfl) ?_
        refine xl_nil ?_
        refine xblock_normal ?_
        refine xthen_normal ?_
        refine xc_region ?_
        refine xl_pure rfl rfl rfl (pv_move (v := .int _ _) rfl rfl) ?_
        refine xl_pure rfl rfl rfl (pv_add rfl rfl rfl (fit_i64 (by omega))) ?_
        refine xl_pure rfl rfl rfl (pv_assign (v := .int _ _) rfl rfl) ?_
        refine xl_nil ?_
        refine xthen_normal ?_
        exact ⟨(i + 1, _, _), ⟨rfl, rfl, slv (by rw [mst_take (by omega)]; rfl), rfl, trivial⟩, ⟨by (try simp only); omega, all_next hall h6_1, by rw [mst_take (by omega)]; exact hQ5_16, by rw [mst_take (by omega)]; exact hc5_16, hX⟩, by (try simp only); omega⟩
      · skip
        refine xl_nil ?_
        refine xthen_normal ?_
        refine xc_cond_t rfl ?_
        refine xc_seq ?_
        refine xc_region ?_
        refine xl_pure rfl rfl rfl (pv_move (v := .slice _ _ _) rfl rfl) ?_
        refine xl_pure rfl rfl rfl (pv_move (v := .int _ _) rfl rfl) ?_
        refine xl_pure rfl rfl rfl (pv_move (v := .int _ _) rfl rfl) ?_
        refine xl_pure rfl rfl rfl (pv_assign (v := .slice _ _ _) rfl rfl) ?_
        refine xl_pure rfl rfl rfl (pv_assign (v := .int _ _) rfl rfl) ?_
        refine xl_pure rfl rfl rfl (pv_assign (v := .int _ _) rfl rfl) ?_
        refine xl_nil ?_
        refine xthen_normal ?_
        refine xc_ret ?_
        refine xthen_ret ?_
        refine xblock_ret ?_
        refine xthen_ret ?_
        refine xthen_ret ?_
        refine xblock_ret ?_
        refine xthen_ret ?_
        refine fin_ret (res3 (v := .slice _ _ _) (x := .int _ _) (y := .int _ _) rfl rfl rfl rfl) ?_
        exact ⟨i, _, x, a, c, rfl, ⟨hall, .inr ⟨by omega, rfl, h6_1, rfl⟩⟩, hx.ext hX, hc, hX⟩
    · skip
      refine xl_nil ?_
      refine xthen_normal ?_
      refine xc_cond_f rfl ?_
      refine xc_exit ?_
      refine xthen_exit ?_
      refine xthen_exit ?_
      refine xblock_same ?_
      refine xthen_normal ?_
      refine xc_seq ?_
      refine xc_region ?_
      refine xl_pure rfl rfl rfl (pv_move (v := .slice _ _ _) rfl rfl) ?_
      refine xl_pure rfl rfl rfl (pv_move (v := .slice _ _ _) rfl rfl) ?_
      refine xl_pure rfl rfl rfl (pv_len_l rfl rfl) ?_
      refine xl_pure rfl rfl rfl (pv_assign (v := .slice _ _ _) rfl rfl) ?_
      refine xl_pure rfl rfl rfl (pv_assign (v := .int _ _) rfl rfl) ?_
      refine xl_pure rfl rfl rfl (pv_assign (v := .int _ _) rfl rfl) ?_
      refine xl_nil ?_
      refine xthen_normal ?_
      refine xc_ret ?_
      refine fin_ret (res3 (v := .slice _ _ _) (x := .int _ _) (y := .int _ _) rfl rfl rfl rfl) ?_
      obtain rfl : i = P.length := by omega
      exact ⟨_, _, _, a1, c1, rfl, ⟨hall, .inl ⟨rfl, rfl, rfl⟩⟩, hQ, hc1, hX⟩
end Go.XG
