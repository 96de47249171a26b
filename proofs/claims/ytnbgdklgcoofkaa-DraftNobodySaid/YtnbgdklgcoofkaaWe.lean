/-
  Walks of the seat's functions over the logic XG: each function, what it computes. Printed by a program out of wip/walks.py.
-/
import Derived.Test.YtnbgdklgcoofkaaI
import Derived.Test.YtnbgdklgcoofkaaTo
import Derived.Test.YtnbgdklgcoofkaaTa
import Derived.Test.YtnbgdklgcoofkaaTb
import Derived.Test.YtnbgdklgcoofkaaTc
import Derived.Test.YtnbgdklgcoofkaaTd
import Derived.Test.YtnbgdklgcoofkaaP
import Derived.Test.YtnbgdklgcoofkaaWa
import Derived.Test.YtnbgdklgcoofkaaWb
import Derived.Test.YtnbgdklgcoofkaaWc
import Derived.Test.YtnbgdklgcoofkaaQ
import Derived.Test.YtnbgdklgcoofkaaWd
namespace Go.XG
open Go.Proofs
set_option maxRecDepth 4000
set_option maxHeartbeats 4000000
theorem c14 {O : Outer} {H : Heap} {bp c : Nat} {a : Option Addr} {l : List (List Int)} {g : Int} (mp : Blk H bp [.slice a (l).length c, .int .i64 g] 29) (hR : RowsT H 75 13 a l) (hc : l.length ≤ c) (hna : a = none → c = 0) (hl : l.length < 1000000) (hg : Goo l) :
    FnC Try.prog 14 #[.pointer (some ⟨bp, 0, none⟩)] O H (fun v H' => ∃ a' c', v = .slice a' (l.map fun r => r.drop 4).length c' ∧ RowsT H' 23 9 a' (l.map fun r => r.drop 4) ∧ Ext H H') := by
  refine fn_enter (A := [.pointer (some ⟨bp, 0, none⟩)]) Try.func14 rfl rfl ?_
  have hX := Ext.refl H
  refine xc_seq ?_
  refine xc_region ?_
  refine xl_pure rfl rfl rfl (pv_assign (v := .slice _ _ _) rfl rfl) ?_
  refine xl_nil ?_
  refine xthen_normal ?_
  refine xc_seq ?_
  refine xc_seq ?_
  refine xc_region ?_
  refine xl_pure rfl rfl rfl (pv_move (v := .pointer _) rfl rfl) ?_
  refine xl_pure rfl rfl rfl (pv_eql_pn rfl rfl rfl) ?_
  refine xl_nil ?_
  refine xthen_normal ?_
  refine xc_cond_f rfl ?_
  refine xc_skip ?_
  refine xthen_normal ?_
  refine xc_seq ?_
  refine xc_region ?_
  refine xl_heavy rfl rfl rfl (hv_alloc rfl rfl) ?_
  rintro v3_0 H3_0 ⟨b3_0, rfl, hN3_0⟩
  have gb3_0 := hX.fresh hN3_0
  have nmp_3_0 := mp.apart hN3_0
  have mp := mp.ext hN3_0.ext
  have hR := hR.ext hN3_0.ext
  have hX := hX.trans hN3_0.ext
  have m3_0 := hN3_0.blk
  refine xl_nil ?_
  refine xthen_normal ?_
  refine xc_seq_marks2 ?_
  refine xc_region ?_
  refine xl_pure rfl rfl rfl (pv_move (v := .pointer _) rfl rfl) ?_
  refine xl_pure rfl rfl rfl (pv_nilCheck_p rfl rfl) ?_
  refine xl_pure rfl rfl rfl (pv_fieldAddr rfl rfl) ?_
  refine xl_heavy rfl rfl rfl (hv_call (g := 32) rfl rfl (c32 (some ⟨bp, 0, none⟩)) rfl) ?_
  rintro v4_3 H4_3 ⟨bi, rfl, hN4_3⟩
  have m3_0 := m3_0.ext hN4_3.ext
  have mp := mp.ext hN4_3.ext
  have hR := hR.ext hN4_3.ext
  have hX := hX.trans hN4_3.ext
  have mi := hN4_3.blk
  refine xl_nil ?_
  refine xthen_normal ?_
  have hXs := hX.size
  refine xs_rangeB (f := fun i => [.agg (ints (ky (gr l i))).toArray, .agg (ints ((gr l i).drop 4)).toArray]) (n := l.length) rfl (tAll (bt := bp) (b1 := bi) (t := 29) (c := c) (rest := [.int .i64 g]) (a := a) (l := l) (by omega)) (fun _ => rfl) rfl (fun i H' => ∃ (va : Option Addr), ∃ (vc : Nat), (Blk H' b3_0 [.slice va i vc] 44) ∧ (Own H' H.size 23 9 (.slice va i vc) i (fr ((l.take i).map fun r => r.drop 4))) ∧ (RowsT H' 75 13 a l) ∧ (Blk H' bp [.slice a (l).length c, .int .i64 g] 29) ∧ (Blk H' bi [.pointer (some ⟨bp, 0, none⟩)] 71) ∧ (Ext H H')) (fun H' => False) ?_ ?_ ?_ ?_ ?_ ?_ ?_ ?_ ?_ ?_
  · rintro i H1 H2 ⟨va, vc, m3_0, ho, hR, mp, mi, hX⟩ e; exact ⟨va, vc, m3_0.ext e, ho.ext e, hR.ext e, mp.ext e, mi.ext e, hX.trans e⟩
  · rintro i l H1 H2 hle ⟨va, vc, m3_0, ho, hR, mp, mi, hX⟩ u; exact ⟨va, vc, m3_0.lp u, ho.lp u, hR.lp u, mp.lp u, mi.lp u, hX.lp u (Nat.le_trans hXs hle)⟩
  · intro _ _ h; exact h.elim
  · intro _ _ _ _ h; exact h.elim
  · rintro H' ⟨va, vc, m3_0, ho, hR, mp, mi, hX⟩; exact ⟨mi, mp⟩
  · rintro i H' ⟨va, vc, m3_0, ho, hR, mp, mi, hX⟩; exact hR
  · exact ⟨none, 0, m3_0, by simpa [fr] using Own.nil _ H.size 23 9, hR, mp, mi, hX⟩
  · skip
    clear hX mp hR m3_0 mi
    rintro i Hr5 oD oL hi5 ⟨va, vc, m3_0, ho, hR, mp, mi, hX⟩ hD hL
    replace m3_0 : Blk Hr5 b3_0 [.slice va i vc] 44 := m3_0
    replace ho : Own Hr5 H.size 23 9 (.slice va i vc) i (fr ((l.take i).map fun r => r.drop 4)) := ho
    replace hR : RowsT Hr5 75 13 a l := hR
    replace mp : Blk Hr5 bp [.slice a (l).length c, .int .i64 g] 29 := mp
    replace mi : Blk Hr5 bi [.pointer (some ⟨bp, 0, none⟩)] 71 := mi
    replace hX : Ext H Hr5 := hX
    have h9 : ((gr l i).drop 4).length = 9 := by rw [List.length_drop, hR.wide.get hi5]
    have hD0 := hD; have hL0 := hL
    show XC _ _ _ (upd (upd _ 12 (.agg (ints (ky (gr l i))).toArray)) 13 (.agg (ints ((gr l i).drop 4)).toArray)) _
    refine xc_region ?_
    refine xl_heavy rfl rfl rfl (hv_alloc rfl rfl) ?_
    rintro v5_0 H5_0 ⟨b5_0, rfl, hN5_0⟩
    have gb5_0 := hX.fresh hN5_0
    have nmp_5_0 := mp.apart hN5_0
    have nm3_0_5_0 := m3_0.apart hN5_0
    have nmi_5_0 := mi.apart hN5_0
    have pm5_0_ho := ho.apartN hN5_0
    have mp := mp.ext hN5_0.ext
    have hR := hR.ext hN5_0.ext
    have m3_0 := m3_0.ext hN5_0.ext
    have mi := mi.ext hN5_0.ext
    have ho := ho.ext hN5_0.ext
    have hD := hD.ext hN5_0.ext
    have hL := hL.ext hN5_0.ext
    have hX := hX.trans hN5_0.ext
    have m5_0 := hN5_0.blk
    refine xl_store rfl rfl (hv_storeA (vs := ints ((gr l i).drop 4)) rfl rfl rfl (m5_0) (ints_ten h9) (by rfl) (ints_one _)) ?_
    rintro v5_1 H5_1 ⟨hU5_1, hZ5_1⟩
    have mp := mp.off hU5_1.but (by first | exact nmp_5_0 | exact ⟨mp.ne m5_0 rfl⟩ | exact ⟨mp.ne m5_0 (by assumption)⟩ | exact ⟨Ne.symm (m5_0.ne mp (by assumption))⟩)
    have hR := hR.offT m5_0 hU5_1.but (by first | rfl | assumption)
    have m3_0 := m3_0.off hU5_1.but (by first | exact nm3_0_5_0 | exact ⟨m3_0.ne m5_0 rfl⟩ | exact ⟨m3_0.ne m5_0 (by assumption)⟩ | exact ⟨Ne.symm (m5_0.ne m3_0 (by assumption))⟩)
    have mi := mi.off hU5_1.but (by first | exact nmi_5_0 | exact ⟨mi.ne m5_0 rfl⟩ | exact ⟨mi.ne m5_0 (by assumption)⟩ | exact ⟨Ne.symm (m5_0.ne mi (by assumption))⟩)
    have ho := ho.offU m5_0 hU5_1.but (.inr pm5_0_ho)
    have hD := hD.off m5_0 hU5_1.but
    have hL := hL.off m5_0 hU5_1.but
    have hX := hX.upd hU5_1.but gb5_0
    have m5_0 := hU5_1.blk
    refine xl_nil ?_
    refine xasg_mk (RecKept.of hD0 hL0 hD hL) (fun Hb5 oD oL uB hD hL => ?_)
    have mp := mp.lp uB
    have hR := hR.lp uB
    have m3_0 := m3_0.lp uB
    have mi := mi.lp uB
    have ho := ho.lp uB
    have m5_0 := m5_0.lp uB
    have hX := hX.lp uB (Nat.le_succ_of_le hXs)
    have hD0 := hD; have hL0 := hL
    refine xc_block ?_
    refine xc_region ?_
    refine xl_light rfl rfl rfl (lv_load (v := .slice _ _ _) rfl rfl (ld_blk m3_0 rfl)) ?_
    refine xl_light rfl rfl rfl (lv_load (v := .agg _) rfl rfl (ld_ints m5_0 h9)) ?_
    refine xl_heavy rfl rfl rfl (hv_buildSlice (cs := ints ((gr l i).drop 4)) rfl rfl (parts1 (ints_ten h9)) rfl rfl) ?_
    rintro v6_2 H6_2 ⟨b6_2, rfl, hN6_2⟩
    have gb6_2 := hX.fresh hN6_2
    have nmp_6_2 := mp.apart hN6_2
    have nm3_0_6_2 := m3_0.apart hN6_2
    have nmi_6_2 := mi.apart hN6_2
    have pm6_2_ho := ho.apartN hN6_2
    have nm5_0_6_2 := m5_0.apart hN6_2
    have mp := mp.ext hN6_2.ext
    have hR := hR.ext hN6_2.ext
    have m3_0 := m3_0.ext hN6_2.ext
    have mi := mi.ext hN6_2.ext
    have ho := ho.ext hN6_2.ext
    have hD := hD.ext hN6_2.ext
    have hL := hL.ext hN6_2.ext
    have m5_0 := m5_0.ext hN6_2.ext
    have hX := hX.trans hN6_2.ext
    have m6_2 := hN6_2.blk
    refine xl_heavy rfl rfl rfl (hv_append (size := 9) rfl rfl ho rfl m6_2.row (by simpa using ints_ten h9) (ints_mem _) rfl (by decide) (by omega) (by omega) hX.size) ?_
    rintro v6_3 H6_3 ⟨hO6_3, hG6_3, -, hB6_3⟩
    have mp := mp.offT ho hG6_3 rfl
    have hR := hR.growT ho hG6_3 (by first | rfl | assumption)
    have m3_0 := m3_0.offT ho hG6_3 rfl
    have mi := mi.offT ho hG6_3 rfl
    have hD := hD.grow ho hG6_3
    have hL := hL.grow ho hG6_3
    have lt_m5_0_6_3 := m5_0.lt
    have m5_0 := m5_0.offA hG6_3 (pm5_0_ho)
    have hX := ho.grown hX hG6_3 (Nat.le_refl _)
    have pm5_0_hO6_3 := OwnApart.grown pm5_0_ho hB6_3 (lt_m5_0_6_3)
    obtain ⟨a6_3, c6_3, rfl⟩ := hO6_3.val
    refine xl_store rfl rfl (hv_store (vs := [.slice _ _ _]) rfl rfl rfl (m3_0) rfl (Nat.le_of_ble_eq_true rfl) rfl) ?_
    rintro v6_4 H6_4 ⟨hU6_4, hZ6_4⟩
    have mp := mp.off hU6_4.but (by first | exact nmp_3_0 | exact ⟨mp.ne m3_0 rfl⟩ | exact ⟨mp.ne m3_0 (by assumption)⟩ | exact ⟨Ne.symm (m3_0.ne mp (by assumption))⟩)
    have hR := hR.offT m3_0 hU6_4.but (by first | rfl | assumption)
    have mi := mi.off hU6_4.but (by first | exact nm3_0_mi.symm | exact ⟨mi.ne m3_0 rfl⟩ | exact ⟨mi.ne m3_0 (by assumption)⟩ | exact ⟨Ne.symm (m3_0.ne mi (by assumption))⟩)
    have hD := hD.off m3_0 hU6_4.but
    have hL := hL.off m3_0 hU6_4.but
    have m5_0 := m5_0.off hU6_4.but (by first | exact nm3_0_5_0.symm | exact ⟨m5_0.ne m3_0 rfl⟩ | exact ⟨m5_0.ne m3_0 (by assumption)⟩ | exact ⟨Ne.symm (m3_0.ne m5_0 (by assumption))⟩)
    have hO6_3 := hO6_3.offU m3_0 hU6_4.but (.inl rfl)
    have hX := hX.upd hU6_4.but gb3_0
    have m3_0 := hU6_4.blk
    refine xl_nil ?_
    refine xblock_normal ?_
    exact xround_n (RecKept.of hD0 hL0 hD hL) ⟨_, _, m3_0, by rw [frf_take (fun r => r.drop 4) hi5]; exact hO6_3, hR, mp, mi, hX⟩
  · skip
    clear hX mp hR m3_0 mi
    rintro Hd5 ⟨va, vc, m3_0, ho, hR, mp, mi, hX⟩ hM
    replace m3_0 : Blk Hd5 b3_0 [.slice va (l.length) vc] 44 := m3_0
    replace ho : Own Hd5 H.size 23 9 (.slice va (l.length) vc) (l.length) (fr ((l.take (l.length)).map fun r => r.drop 4)) := ho
    replace hR : RowsT Hd5 75 13 a l := hR
    replace mp : Blk Hd5 bp [.slice a (l).length c, .int .i64 g] 29 := mp
    replace mi : Blk Hd5 bi [.pointer (some ⟨bp, 0, none⟩)] 71 := mi
    replace hX : Ext H Hd5 := hX
    rw [List.take_length] at ho
    refine xc_seq ?_
    refine xc_region ?_
    refine xl_light rfl rfl rfl (lv_load (v := .slice _ _ _) rfl rfl (ld_blk m3_0 rfl)) ?_
    refine xl_pure rfl rfl rfl (pv_assign (v := .slice _ _ _) rfl rfl) ?_
    refine xl_nil ?_
    refine xthen_normal ?_
    refine xc_retm rfl hM.h ?_
    have uM := lpw_set (o' := .deferred none) hM.h hM.r
    have mp := mp.lp uM
    have hR := hR.lp uM
    have m3_0 := m3_0.lp uM
    have mi := mi.lp uM
    have ho := ho.lp uM
    have hX := hX.lp uM hXs
    refine xret_ret ?_
    refine fin_ret (res1 (v := .slice _ _ _) rfl rfl) ?_
    exact ⟨_, _, slv (by rw [List.length_map]), own_rowsT (n := l.length) (fun r hr => by obtain ⟨s, hs, rfl⟩ := List.mem_map.1 hr; rw [List.length_drop, hg.wide s hs]) (by rw [List.length_map]; exact ho), hX⟩
  · skip
    intro _ h; exact h.elim

theorem c14n {O : Outer} {H : Heap}  :
    FnC Try.prog 14 #[.pointer none] O H (fun v H' => v = .slice none 0 0 ∧ Ext H H') := by
  refine fn_enter (A := [.pointer none]) Try.func14 rfl rfl ?_
  have hX := Ext.refl H
  refine xc_seq ?_
  refine xc_region ?_
  refine xl_pure rfl rfl rfl (pv_assign (v := .slice _ _ _) rfl rfl) ?_
  refine xl_nil ?_
  refine xthen_normal ?_
  refine xc_seq ?_
  refine xc_seq ?_
  refine xc_region ?_
  refine xl_pure rfl rfl rfl (pv_move (v := .pointer _) rfl rfl) ?_
  refine xl_pure rfl rfl rfl (pv_eql_nn rfl rfl rfl) ?_
  refine xl_nil ?_
  refine xthen_normal ?_
  refine xc_cond_t rfl ?_
  refine xc_seq ?_
  refine xc_region ?_
  refine xl_pure rfl rfl rfl (pv_assign (v := .slice _ _ _) rfl rfl) ?_
  refine xl_nil ?_
  refine xthen_normal ?_
  refine xc_ret ?_
  refine xthen_ret ?_
  refine fin_ret (res1 (v := .slice _ _ _) rfl rfl) ?_
  exact ⟨rfl, hX⟩

theorem c13 {O : Outer} {H : Heap} {bp c : Nat} {a : Option Addr} {l : List (List Int)} {g : Int} (mp : Blk H bp [.slice a (l).length c, .int .i64 g] 29) (hR : RowsT H 75 13 a l) (hc : l.length ≤ c) (hna : a = none → c = 0) (hl : l.length < 1000000) (hg : Goo l) :
    FnC Try.prog 13 #[.pointer (some ⟨bp, 0, none⟩)] O H (fun v H' => ∃ b, v = .pointer (some ⟨b, 0, none⟩) ∧ Blk H' b [.slice a (l).length c, .int .i64 g] 29 ∧ Fresh H b ∧ Ext H H') := by
  refine fn_enter (A := [.pointer (some ⟨bp, 0, none⟩)]) Try.func13 rfl rfl ?_
  have hX := Ext.refl H
  refine xc_seq ?_
  refine xc_region ?_
  refine xl_pure rfl rfl rfl (pv_assign (v := .pointer _) rfl rfl) ?_
  refine xl_nil ?_
  refine xthen_normal ?_
  refine xc_seq ?_
  refine xc_seq ?_
  refine xc_region ?_
  refine xl_pure rfl rfl rfl (pv_move (v := .pointer _) rfl rfl) ?_
  refine xl_pure rfl rfl rfl (pv_eql_pn rfl rfl rfl) ?_
  refine xl_nil ?_
  refine xthen_normal ?_
  refine xc_cond_f rfl ?_
  refine xc_skip ?_
  refine xthen_normal ?_
  refine xc_seq ?_
  refine xc_region ?_
  refine xl_pure rfl rfl rfl (pv_move (v := .pointer _) rfl rfl) ?_
  refine xl_pure rfl rfl rfl (pv_nilCheck_p rfl rfl) ?_
  refine xl_light rfl rfl rfl (lv_load (v := .agg _) rfl rfl (ld_blk_a mp rfl rfl)) ?_
  refine xl_heavy rfl rfl rfl (hv_alloc rfl rfl) ?_
  rintro v3_3 H3_3 ⟨b3_3, rfl, hN3_3⟩
  have gb3_3 := hX.fresh hN3_3
  have nmp_3_3 := mp.apart hN3_3
  have mp := mp.ext hN3_3.ext
  have hR := hR.ext hN3_3.ext
  have hX := hX.trans hN3_3.ext
  have m3_3 := hN3_3.blk
  refine xl_store rfl rfl (hv_storeA (vs := [.slice _ _ _, .int _ _]) rfl rfl rfl (m3_3) rfl (by rfl) rfl) ?_
  rintro v3_4 H3_4 ⟨hU3_4, hZ3_4⟩
  have mp := mp.off hU3_4.but (by first | exact nmp_3_3 | exact ⟨mp.ne m3_3 rfl⟩ | exact ⟨mp.ne m3_3 (by assumption)⟩ | exact ⟨Ne.symm (m3_3.ne mp (by assumption))⟩)
  have hR := hR.offT m3_3 hU3_4.but (by first | rfl | assumption)
  have hX := hX.upd hU3_4.but gb3_3
  have m3_3 := hU3_4.blk
  refine xl_nil ?_
  refine xthen_normal ?_
  refine xc_seq ?_
  refine xc_region ?_
  refine xl_pure rfl rfl rfl (pv_assign (v := .pointer _) rfl rfl) ?_
  refine xl_nil ?_
  refine xthen_normal ?_
  refine xc_ret ?_
  refine fin_ret (res1 (v := .pointer _) rfl rfl) ?_
  exact ⟨_, rfl, m3_3, gb3_3, hX⟩

theorem c13n {O : Outer} {H : Heap}  :
    FnC Try.prog 13 #[.pointer none] O H (fun v H' => ∃ b, v = .pointer (some ⟨b, 0, none⟩) ∧ Blk H' b [.slice none 0 0, .int .i64 0] 29 ∧ Fresh H b ∧ Ext H H') := by
  refine fn_enter (A := [.pointer none]) Try.func13 rfl rfl ?_
  have hX := Ext.refl H
  refine xc_seq ?_
  refine xc_region ?_
  refine xl_pure rfl rfl rfl (pv_assign (v := .pointer _) rfl rfl) ?_
  refine xl_nil ?_
  refine xthen_normal ?_
  refine xc_seq ?_
  refine xc_seq ?_
  refine xc_region ?_
  refine xl_pure rfl rfl rfl (pv_move (v := .pointer _) rfl rfl) ?_
  refine xl_pure rfl rfl rfl (pv_eql_nn rfl rfl rfl) ?_
  refine xl_nil ?_
  refine xthen_normal ?_
  refine xc_cond_t rfl ?_
  refine xc_seq ?_
  refine xc_region ?_
  refine xl_pure rfl rfl rfl (pv_build_s (cs := [.slice _ _ _, .int _ _]) rfl rfl rfl) ?_
  refine xl_heavy rfl rfl rfl (hv_box rfl rfl) ?_
  rintro v2_1 H2_1 ⟨b2_1, rfl, hN2_1⟩
  have gb2_1 := hX.fresh hN2_1
  have hX := hX.trans hN2_1.ext
  have m2_1 := hN2_1.blk
  refine xl_pure rfl rfl rfl (pv_assign (v := .pointer _) rfl rfl) ?_
  refine xl_nil ?_
  refine xthen_normal ?_
  refine xc_ret ?_
  refine xthen_ret ?_
  refine fin_ret (res1 (v := .pointer _) rfl rfl) ?_
  exact ⟨_, rfl, m2_1, gb2_1, hX⟩

theorem c17 {O : Outer} {H : Heap} (l m : List (List Int)) (a a' : Option Addr) (c c' : Nat) (hs : Rows H a 9 l) (hs' : Rows H a' 9 m) (hl : l.length < 4611686018427387904) :
    FnC Try.prog 17 #[.slice a l.length c, .slice a' m.length c'] O H (fun v H' => ∃ r, v = .bool r ∧ (r = true ↔ l = m) ∧ H = H') := by
  refine fn_enter (A := [.slice a l.length c, .slice a' m.length c']) Try.func17 rfl rfl ?_
  refine xc_seq ?_
  refine xc_region ?_
  refine xl_pure rfl rfl rfl (pv_assign (v := .bool _) rfl rfl) ?_
  refine xl_nil ?_
  refine xthen_normal ?_
  refine xc_seq ?_
  refine xc_seq ?_
  refine xc_region ?_
  refine xl_pure rfl rfl rfl (pv_move (v := .slice _ _ _) rfl rfl) ?_
  refine xl_pure rfl rfl rfl (pv_len_l rfl rfl) ?_
  refine xl_pure rfl rfl rfl (pv_move (v := .slice _ _ _) rfl rfl) ?_
  refine xl_pure rfl rfl rfl (pv_len_l rfl rfl) ?_
  refine xl_ndec rfl rfl rfl (pv_neq rfl rfl rfl) (fun h1_4 => ?_) (fun h1_4 => ?_)
  · skip
    refine xl_nil ?_
    refine xthen_normal ?_
    refine xc_cond_f rfl ?_
    refine xc_skip ?_
    refine xthen_normal ?_
    refine xc_seq ?_
    refine xc_seq ?_
    refine xc_region ?_
    refine xl_pure rfl rfl rfl (pv_assign (v := .int _ _) rfl rfl) ?_
    refine xl_nil ?_
    refine xthen_normal ?_
    refine xc_block ?_
    refine xc_loop (τ := Nat) (fun t => [(0, .slice a l.length c), (1, .slice a' m.length c'), (5, .int .i64 (t : Nat))]) (fun t H' => t ≤ l.length ∧ (l = m ↔ l.drop t = m.drop t) ∧ H = H') (fun t H' => l.length - t) 0 ?_ ?_ ?_
    · exact ⟨rfl, rfl, rfl, trivial⟩
    · skip
      exact ⟨Nat.zero_le _, Iff.rfl, rfl⟩
    · intro σ
      rintro k Hl ⟨hk, heq, rfl⟩
      show XC _ _ _ (upds σ [(0, .slice a l.length c), (1, .slice a' m.length c'), (5, .int .i64 (k : Nat))]) _
      refine xc_seq ?_
      refine xc_seq ?_
      refine xc_region ?_
      refine xl_pure rfl rfl rfl (pv_move (v := .int _ _) rfl rfl) ?_
      refine xl_pure rfl rfl rfl (pv_move (v := .slice _ _ _) rfl rfl) ?_
      refine xl_pure rfl rfl rfl (pv_len_l rfl rfl) ?_
      refine xl_dec rfl rfl rfl (pv_lss rfl rfl rfl) (fun h4_3 => ?_) (fun h4_3 => ?_)
      · skip
        refine xl_pure rfl rfl rfl (pv_move (v := .bool _) rfl rfl) ?_
        refine xl_pure rfl rfl rfl (pv_move (v := .int _ _) rfl rfl) ?_
        refine xl_pure rfl rfl rfl (pv_move (v := .slice _ _ _) rfl rfl) ?_
        refine xl_pure rfl rfl rfl (pv_len_l rfl rfl) ?_
        refine xl_dec rfl rfl rfl (pv_lss rfl rfl rfl) (fun h4_8 => ?_) (fun h4_8 => ?_)
        · skip
          refine xl_pure rfl rfl rfl (pv_pick_t (v := .bool _) rfl rfl rfl) ?_
          refine xl_nil ?_
          refine xthen_normal ?_
          refine xc_cond_t rfl ?_
          refine xc_skip ?_
          refine xthen_normal ?_
          refine xc_seq ?_
          refine xc_block ?_
          refine xc_seq ?_
          obtain ⟨ba, off, rfl, hsa⟩ := hs.2.resolve_left (by omega)
          obtain ⟨bb, off', rfl, hsb⟩ := hs'.2.resolve_left (by omega)
          refine xp_start rfl (by repeat (first | with_reducible exact np_fin | with_reducible refine np_then ?_ | with_reducible refine np_block ?_)) (by kernel_rfl) ?_
          refine xp_pure (i := 0) rfl (by kernel_rfl) (by kernel_rfl) rfl rfl rfl (pv_move (v := .slice _ _ _) rfl rfl) ?_
          refine xp_pure (i := 1) rfl (by kernel_rfl) (by kernel_rfl) rfl rfl rfl (pv_move (v := .int _ _) rfl rfl) ?_
          refine xp_pure (i := 2) rfl (by kernel_rfl) (by kernel_rfl) rfl rfl rfl (pv_indexAddr_l rfl rfl rfl (by omega)) ?_
          refine xp_light (i := 3) rfl (by kernel_rfl) (by kernel_rfl) rfl rfl rfl (lv_load (v := .agg _) rfl rfl (by first | exact ld_row' (i := k) hsa hs.1 (by omega))) ?_
          refine xp_pure (i := 4) rfl (by kernel_rfl) (by kernel_rfl) rfl rfl rfl (pv_move (v := .slice _ _ _) rfl rfl) ?_
          refine xp_pure (i := 5) rfl (by kernel_rfl) (by kernel_rfl) rfl rfl rfl (pv_move (v := .int _ _) rfl rfl) ?_
          refine xp_pure (i := 6) rfl (by kernel_rfl) (by kernel_rfl) rfl rfl rfl (pv_indexAddr_l rfl rfl rfl (by omega)) ?_
          refine xp_light (i := 7) rfl (by kernel_rfl) (by kernel_rfl) rfl rfl rfl (lv_load (v := .agg _) rfl rfl (by first | exact ld_row' (i := k) hsb hs'.1 (by omega))) ?_
          refine xp_ndec (i := 8) rfl (by kernel_rfl) (by kernel_rfl) rfl rfl rfl (pv_neq_g (gr l k) (gr m k) rfl rfl rfl (hs.1.get (by omega)) (hs'.1.get (by omega))) (fun h6_8 => ?_) (fun h6_8 => ?_)
          · skip
            refine xp_done (by kernel_rfl) ?_
            refine xthen_normal ?_
            refine xc_cond_f rfl ?_
            refine xc_skip ?_
            refine xblock_normal ?_
            refine xthen_normal ?_
            refine xc_region ?_
            refine xl_pure rfl rfl rfl (pv_move (v := .int _ _) rfl rfl) ?_
            refine xl_pure rfl rfl rfl (pv_add rfl rfl rfl (fit_i64 (by omega))) ?_
            refine xl_pure rfl rfl rfl (pv_assign (v := .int _ _) rfl rfl) ?_
            refine xl_nil ?_
            refine xthen_normal ?_
            exact ⟨k + 1, ⟨rfl, rfl, rfl, trivial⟩, ⟨by omega, (rows_drop (by omega) (by omega) heq).trans ⟨fun h => h.2, fun h => ⟨h6_8, h⟩⟩, rfl⟩, by omega⟩
          · skip
            refine xp_done (by kernel_rfl) ?_
            refine xthen_normal ?_
            refine xc_cond_t rfl ?_
            refine xc_seq ?_
            refine xc_region ?_
            refine xl_pure rfl rfl rfl (pv_assign (v := .bool _) rfl rfl) ?_
            refine xl_nil ?_
            refine xthen_normal ?_
            refine xc_ret ?_
            refine xblock_ret ?_
            refine xthen_ret ?_
            refine xthen_ret ?_
            refine xblock_ret ?_
            refine xthen_ret ?_
            refine fin_ret (res1 (v := .bool _) rfl rfl) ?_
            exact ⟨false, rfl, ⟨fun h => absurd h (by decide), fun h => absurd ((rows_drop (by omega) (by omega) heq).1 h).1 h6_8⟩, rfl⟩
        · skip
          refine xl_pure rfl rfl rfl (pv_pick_t (v := .bool _) rfl rfl rfl) ?_
          refine xl_nil ?_
          refine xthen_normal ?_
          refine xc_cond_f rfl ?_
          refine xc_exit ?_
          refine xthen_exit ?_
          refine xthen_exit ?_
          refine xblock_same ?_
          refine xthen_normal ?_
          refine xc_seq ?_
          refine xc_region ?_
          refine xl_pure rfl rfl rfl (pv_assign (v := .bool _) rfl rfl) ?_
          refine xl_nil ?_
          refine xthen_normal ?_
          refine xc_ret ?_
          refine fin_ret (res1 (v := .bool _) rfl rfl) ?_
          exact ⟨true, rfl, ⟨fun _ => heq.2 (by rw [List.drop_of_length_le (by omega), List.drop_of_length_le (by omega)]), fun _ => rfl⟩, rfl⟩
      · skip
        refine xl_pure rfl rfl rfl (pv_move (v := .bool _) rfl rfl) ?_
        refine xl_skip rfl rfl rfl ?_
        refine xl_skip rfl rfl rfl ?_
        refine xl_skip rfl rfl rfl ?_
        refine xl_skip rfl rfl rfl ?_
        refine xl_pure rfl rfl rfl (pv_pick_f (v := .bool _) rfl rfl rfl) ?_
        refine xl_nil ?_
        refine xthen_normal ?_
        refine xc_cond_f rfl ?_
        refine xc_exit ?_
        refine xthen_exit ?_
        refine xthen_exit ?_
        refine xblock_same ?_
        refine xthen_normal ?_
        refine xc_seq ?_
        refine xc_region ?_
        refine xl_pure rfl rfl rfl (pv_assign (v := .bool _) rfl rfl) ?_
        refine xl_nil ?_
        refine xthen_normal ?_
        refine xc_ret ?_
        refine fin_ret (res1 (v := .bool _) rfl rfl) ?_
        exact ⟨true, rfl, ⟨fun _ => heq.2 (by rw [List.drop_of_length_le (by omega), List.drop_of_length_le (by omega)]), fun _ => rfl⟩, rfl⟩
  · skip
    refine xl_nil ?_
    refine xthen_normal ?_
    refine xc_cond_t rfl ?_
    refine xc_seq ?_
    refine xc_region ?_
    refine xl_pure rfl rfl rfl (pv_assign (v := .bool _) rfl rfl) ?_
    refine xl_nil ?_
    refine xthen_normal ?_
    refine xc_ret ?_
    refine xthen_ret ?_
    refine fin_ret (res1 (v := .bool _) rfl rfl) ?_
    exact ⟨false, rfl, ⟨fun h => absurd h (by decide), fun h => by subst h; omega⟩, rfl⟩

theorem c23 {O : Outer} {H : Heap} (l m : List (List Int)) (a a' : Option Addr) (c c' : Nat) (hs : Rows H a 1 l) (hs' : Rows H a' 1 m) (hl : l.length < 4611686018427387904) :
    FnC Try.prog 23 #[.slice a l.length c, .slice a' m.length c'] O H (fun v H' => ∃ r, v = .bool r ∧ (r = true ↔ l = m) ∧ H = H') := by
  refine fn_enter (A := [.slice a l.length c, .slice a' m.length c']) Try.func23 rfl rfl ?_
  refine xc_seq ?_
  refine xc_region ?_
  refine xl_pure rfl rfl rfl (pv_assign (v := .bool _) rfl rfl) ?_
  refine xl_nil ?_
  refine xthen_normal ?_
  refine xc_seq ?_
  refine xc_seq ?_
  refine xc_region ?_
  refine xl_pure rfl rfl rfl (pv_move (v := .slice _ _ _) rfl rfl) ?_
  refine xl_pure rfl rfl rfl (pv_len_l rfl rfl) ?_
  refine xl_pure rfl rfl rfl (pv_move (v := .slice _ _ _) rfl rfl) ?_
  refine xl_pure rfl rfl rfl (pv_len_l rfl rfl) ?_
  refine xl_ndec rfl rfl rfl (pv_neq rfl rfl rfl) (fun h1_4 => ?_) (fun h1_4 => ?_)
  · skip
    refine xl_nil ?_
    refine xthen_normal ?_
    refine xc_cond_f rfl ?_
    refine xc_skip ?_
    refine xthen_normal ?_
    refine xc_seq ?_
    refine xc_seq ?_
    refine xc_region ?_
    refine xl_pure rfl rfl rfl (pv_assign (v := .int _ _) rfl rfl) ?_
    refine xl_nil ?_
    refine xthen_normal ?_
    refine xc_block ?_
    refine xc_loop (τ := Nat) (fun t => [(0, .slice a l.length c), (1, .slice a' m.length c'), (5, .int .i64 (t : Nat))]) (fun t H' => t ≤ l.length ∧ (l = m ↔ l.drop t = m.drop t) ∧ H = H') (fun t H' => l.length - t) 0 ?_ ?_ ?_
    · exact ⟨rfl, rfl, rfl, trivial⟩
    · skip
      exact ⟨Nat.zero_le _, Iff.rfl, rfl⟩
    · intro σ
      rintro k Hl ⟨hk, heq, rfl⟩
      show XC _ _ _ (upds σ [(0, .slice a l.length c), (1, .slice a' m.length c'), (5, .int .i64 (k : Nat))]) _
      refine xc_seq ?_
      refine xc_seq ?_
      refine xc_region ?_
      refine xl_pure rfl rfl rfl (pv_move (v := .int _ _) rfl rfl) ?_
      refine xl_pure rfl rfl rfl (pv_move (v := .slice _ _ _) rfl rfl) ?_
      refine xl_pure rfl rfl rfl (pv_len_l rfl rfl) ?_
      refine xl_dec rfl rfl rfl (pv_lss rfl rfl rfl) (fun h4_3 => ?_) (fun h4_3 => ?_)
      · skip
        refine xl_pure rfl rfl rfl (pv_move (v := .bool _) rfl rfl) ?_
        refine xl_pure rfl rfl rfl (pv_move (v := .int _ _) rfl rfl) ?_
        refine xl_pure rfl rfl rfl (pv_move (v := .slice _ _ _) rfl rfl) ?_
        refine xl_pure rfl rfl rfl (pv_len_l rfl rfl) ?_
        refine xl_dec rfl rfl rfl (pv_lss rfl rfl rfl) (fun h4_8 => ?_) (fun h4_8 => ?_)
        · skip
          refine xl_pure rfl rfl rfl (pv_pick_t (v := .bool _) rfl rfl rfl) ?_
          refine xl_nil ?_
          refine xthen_normal ?_
          refine xc_cond_t rfl ?_
          refine xc_skip ?_
          refine xthen_normal ?_
          refine xc_seq ?_
          refine xc_block ?_
          refine xc_seq ?_
          obtain ⟨ba, off, rfl, hsa⟩ := hs.2.resolve_left (by omega)
          obtain ⟨bb, off', rfl, hsb⟩ := hs'.2.resolve_left (by omega)
          refine xp_start rfl (by repeat (first | with_reducible exact np_fin | with_reducible refine np_then ?_ | with_reducible refine np_block ?_)) (by kernel_rfl) ?_
          refine xp_pure (i := 0) rfl (by kernel_rfl) (by kernel_rfl) rfl rfl rfl (pv_move (v := .slice _ _ _) rfl rfl) ?_
          refine xp_pure (i := 1) rfl (by kernel_rfl) (by kernel_rfl) rfl rfl rfl (pv_move (v := .int _ _) rfl rfl) ?_
          refine xp_pure (i := 2) rfl (by kernel_rfl) (by kernel_rfl) rfl rfl rfl (pv_indexAddr_l rfl rfl rfl (by omega)) ?_
          refine xp_light (i := 3) rfl (by kernel_rfl) (by kernel_rfl) rfl rfl rfl (lv_load (v := .int _ _) rfl rfl (by first | exact ld_num (i := k) (j := 0) hsa hs.1 (by omega) (by decide))) ?_
          refine xp_pure (i := 4) rfl (by kernel_rfl) (by kernel_rfl) rfl rfl rfl (pv_move (v := .slice _ _ _) rfl rfl) ?_
          refine xp_pure (i := 5) rfl (by kernel_rfl) (by kernel_rfl) rfl rfl rfl (pv_move (v := .int _ _) rfl rfl) ?_
          refine xp_pure (i := 6) rfl (by kernel_rfl) (by kernel_rfl) rfl rfl rfl (pv_indexAddr_l rfl rfl rfl (by omega)) ?_
          refine xp_light (i := 7) rfl (by kernel_rfl) (by kernel_rfl) rfl rfl rfl (lv_load (v := .int _ _) rfl rfl (by first | exact ld_num (i := k) (j := 0) hsb hs'.1 (by omega) (by decide))) ?_
          refine xp_ndec (i := 8) rfl (by kernel_rfl) (by kernel_rfl) rfl rfl rfl (pv_neq rfl rfl rfl) (fun h6_8 => ?_) (fun h6_8 => ?_)
          · skip
            refine xp_done (by kernel_rfl) ?_
            refine xthen_normal ?_
            refine xc_cond_f rfl ?_
            refine xc_skip ?_
            refine xblock_normal ?_
            refine xthen_normal ?_
            refine xc_region ?_
            refine xl_pure rfl rfl rfl (pv_move (v := .int _ _) rfl rfl) ?_
            refine xl_pure rfl rfl rfl (pv_add rfl rfl rfl (fit_i64 (by omega))) ?_
            refine xl_pure rfl rfl rfl (pv_assign (v := .int _ _) rfl rfl) ?_
            refine xl_nil ?_
            refine xthen_normal ?_
            exact ⟨k + 1, ⟨rfl, rfl, rfl, trivial⟩, ⟨by omega, (rows_drop (by omega) (by omega) heq).trans ⟨fun h => h.2, fun h => ⟨(row1 (hs.1.get (by omega)) (hs'.1.get (by omega))).1 h6_8, h⟩⟩, rfl⟩, by omega⟩
          · skip
            refine xp_done (by kernel_rfl) ?_
            refine xthen_normal ?_
            refine xc_cond_t rfl ?_
            refine xc_seq ?_
            refine xc_region ?_
            refine xl_pure rfl rfl rfl (pv_assign (v := .bool _) rfl rfl) ?_
            refine xl_nil ?_
            refine xthen_normal ?_
            refine xc_ret ?_
            refine xblock_ret ?_
            refine xthen_ret ?_
            refine xthen_ret ?_
            refine xblock_ret ?_
            refine xthen_ret ?_
            refine fin_ret (res1 (v := .bool _) rfl rfl) ?_
            exact ⟨false, rfl, ⟨fun h => absurd h (by decide), fun h => absurd ((row1 (hs.1.get (by omega)) (hs'.1.get (by omega))).2 ((rows_drop (by omega) (by omega) heq).1 h).1) h6_8⟩, rfl⟩
        · skip
          refine xl_pure rfl rfl rfl (pv_pick_t (v := .bool _) rfl rfl rfl) ?_
          refine xl_nil ?_
          refine xthen_normal ?_
          refine xc_cond_f rfl ?_
          refine xc_exit ?_
          refine xthen_exit ?_
          refine xthen_exit ?_
          refine xblock_same ?_
          refine xthen_normal ?_
          refine xc_seq ?_
          refine xc_region ?_
          refine xl_pure rfl rfl rfl (pv_assign (v := .bool _) rfl rfl) ?_
          refine xl_nil ?_
          refine xthen_normal ?_
          refine xc_ret ?_
          refine fin_ret (res1 (v := .bool _) rfl rfl) ?_
          exact ⟨true, rfl, ⟨fun _ => heq.2 (by rw [List.drop_of_length_le (by omega), List.drop_of_length_le (by omega)]), fun _ => rfl⟩, rfl⟩
      · skip
        refine xl_pure rfl rfl rfl (pv_move (v := .bool _) rfl rfl) ?_
        refine xl_skip rfl rfl rfl ?_
        refine xl_skip rfl rfl rfl ?_
        refine xl_skip rfl rfl rfl ?_
        refine xl_skip rfl rfl rfl ?_
        refine xl_pure rfl rfl rfl (pv_pick_f (v := .bool _) rfl rfl rfl) ?_
        refine xl_nil ?_
        refine xthen_normal ?_
        refine xc_cond_f rfl ?_
        refine xc_exit ?_
        refine xthen_exit ?_
        refine xthen_exit ?_
        refine xblock_same ?_
        refine xthen_normal ?_
        refine xc_seq ?_
        refine xc_region ?_
        refine xl_pure rfl rfl rfl (pv_assign (v := .bool _) rfl rfl) ?_
        refine xl_nil ?_
        refine xthen_normal ?_
        refine xc_ret ?_
        refine fin_ret (res1 (v := .bool _) rfl rfl) ?_
        exact ⟨true, rfl, ⟨fun _ => heq.2 (by rw [List.drop_of_length_le (by omega), List.drop_of_length_le (by omega)]), fun _ => rfl⟩, rfl⟩
  · skip
    refine xl_nil ?_
    refine xthen_normal ?_
    refine xc_cond_t rfl ?_
    refine xc_seq ?_
    refine xc_region ?_
    refine xl_pure rfl rfl rfl (pv_assign (v := .bool _) rfl rfl) ?_
    refine xl_nil ?_
    refine xthen_normal ?_
    refine xc_ret ?_
    refine xthen_ret ?_
    refine fin_ret (res1 (v := .bool _) rfl rfl) ?_
    exact ⟨false, rfl, ⟨fun h => absurd h (by decide), fun h => by subst h; omega⟩, rfl⟩
end Go.XG
