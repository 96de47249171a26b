/-
  Walks of the seat's functions over the logic XG: each function, what it computes. Printed by a program out of wip/walks.py.
-/
import Derived.Test.YthglaedojgiifaaI
import Derived.Test.YthglaedojgiifaaTm
import Derived.Test.YthglaedojgiifaaTa
import Derived.Test.YthglaedojgiifaaTb
import Derived.Test.YthglaedojgiifaaTc
import Derived.Test.YthglaedojgiifaaTd
namespace Go.XG
open Go.Proofs
set_option maxRecDepth 4000
set_option maxHeartbeats 4000000
theorem c20 {O : Outer} {H : Heap} {bt t c : Nat} {rest : List Value} {a : Option Addr} {l : List (List Int)} (mt : Blk H bt (.slice a l.length c :: rest) t) (hR : RowsT H 69 5 a l) (hne : Nat.beq t 69 = false) (hs : Srt l) (hc : l.length ≤ c) (hna : a = none → c = 0) (hl : l.length < 1099511627776) (hne2 : Nat.beq t 23 = false) :
    FnC Try.prog 20 #[.pointer (some ⟨bt, 0, none⟩)] O H (fun v H' => ∃ a' c', v = .slice a' l.length c' ∧ RowsT H' 23 4 a' (l.map ky) ∧ Ext H H') := by
  refine fn_enter (A := [.pointer (some ⟨bt, 0, none⟩)]) Try.func20 rfl rfl ?_
  have hX := Ext.refl H
  refine xc_seq ?_
  refine xc_region ?_
  refine xl_pure rfl rfl rfl (pv_assign (v := .slice _ _ _) rfl rfl) ?_
  refine xl_nil ?_
  refine xthen_normal ?_
  refine xc_seq ?_
  refine xc_region ?_
  refine xl_heavy rfl rfl rfl (hv_alloc rfl rfl) ?_
  rintro v1_0 H1_0 ⟨b1_0, rfl, hN1_0⟩
  have gb1_0 := hX.fresh hN1_0
  have nmt_1_0 := mt.apart hN1_0
  have mt := mt.ext hN1_0.ext
  have hR := hR.ext hN1_0.ext
  have hX := hX.trans hN1_0.ext
  have m1_0 := hN1_0.blk
  refine xl_nil ?_
  refine xthen_normal ?_
  refine xc_seq_marks2 ?_
  refine xc_region ?_
  refine xl_pure rfl rfl rfl (pv_move (v := .pointer _) rfl rfl) ?_
  refine xl_heavy rfl rfl rfl (hv_call (g := 32) rfl rfl (c32 (some ⟨bt, 0, none⟩)) rfl) ?_
  rintro v2_1 H2_1 ⟨bi, rfl, hN2_1⟩
  have m1_0 := m1_0.ext hN2_1.ext
  have mt := mt.ext hN2_1.ext
  have hR := hR.ext hN2_1.ext
  have hX := hX.trans hN2_1.ext
  have mi := hN2_1.blk
  refine xl_nil ?_
  refine xthen_normal ?_
  have hXs := hX.size
  refine xs_rangeB (f := fun i => [.agg (ints (ky (gr l i))).toArray, .int .i64 ((gr l i).getD 4 0)]) (n := l.length) rfl (tAll (bt := bt) (t := t) (c := c) (rest := rest) (a := a) (l := l) hl) (fun _ => rfl) rfl (fun i H' => ∃ (va : Option Addr), ∃ (vc : Nat), (Blk H' b1_0 [.slice va i vc] 46) ∧ (Own H' H.size 23 4 (.slice va i vc) i (fr ((l.take i).map ky))) ∧ (RowsT H' 69 5 a l) ∧ (Blk H' bt (.slice a l.length c :: rest) t) ∧ (Blk H' bi [.pointer (some ⟨bt, 0, none⟩)] 29) ∧ (Ext H H')) (fun H' => False) ?_ ?_ ?_ ?_ ?_ ?_ ?_ ?_ ?_ ?_
  · rintro i H1 H2 ⟨va, vc, m1_0, ho, hR, mt, mi, hX⟩ e; exact ⟨va, vc, m1_0.ext e, ho.ext e, hR.ext e, mt.ext e, mi.ext e, hX.trans e⟩
  · rintro i l H1 H2 hle ⟨va, vc, m1_0, ho, hR, mt, mi, hX⟩ u; exact ⟨va, vc, m1_0.lp u, ho.lp u, hR.lp u, mt.lp u, mi.lp u, hX.lp u (Nat.le_trans hXs hle)⟩
  · intro _ _ h; exact h.elim
  · intro _ _ _ _ h; exact h.elim
  · rintro H' ⟨va, vc, m1_0, ho, hR, mt, mi, hX⟩; exact ⟨mi, mt⟩
  · rintro i H' ⟨va, vc, m1_0, ho, hR, mt, mi, hX⟩; exact hR
  · exact ⟨none, 0, m1_0, by simpa [fr] using Own.nil _ H.size 23 4, hR, mt, mi, hX⟩
  · skip
    clear hX mt hR m1_0 mi
    rintro i Hr3 oD oL hi3 ⟨va, vc, m1_0, ho, hR, mt, mi, hX⟩ hD hL
    replace m1_0 : Blk Hr3 b1_0 [.slice va i vc] 46 := m1_0
    replace ho : Own Hr3 H.size 23 4 (.slice va i vc) i (fr ((l.take i).map ky)) := ho
    replace hR : RowsT Hr3 69 5 a l := hR
    replace mt : Blk Hr3 bt (.slice a l.length c :: rest) t := mt
    replace mi : Blk Hr3 bi [.pointer (some ⟨bt, 0, none⟩)] 29 := mi
    replace hX : Ext H Hr3 := hX
    have hkl := ky_len (hR.wide.get hi3) (by decide)
    have hD0 := hD; have hL0 := hL
    show XC _ _ _ (upd (upd _ 7 (.agg (ints (ky (gr l i))).toArray)) 8 (.int .i64 ((gr l i).getD 4 0))) _
    refine xc_region ?_
    refine xl_heavy rfl rfl rfl (hv_alloc rfl rfl) ?_
    rintro v3_0 H3_0 ⟨b3_0, rfl, hN3_0⟩
    have gb3_0 := hX.fresh hN3_0
    have nmt_3_0 := mt.apart hN3_0
    have nm1_0_3_0 := m1_0.apart hN3_0
    have nmi_3_0 := mi.apart hN3_0
    have pm3_0_ho := ho.apartN hN3_0
    have mt := mt.ext hN3_0.ext
    have hR := hR.ext hN3_0.ext
    have m1_0 := m1_0.ext hN3_0.ext
    have mi := mi.ext hN3_0.ext
    have ho := ho.ext hN3_0.ext
    have hD := hD.ext hN3_0.ext
    have hL := hL.ext hN3_0.ext
    have hX := hX.trans hN3_0.ext
    have m3_0 := hN3_0.blk
    refine xl_store rfl rfl (hv_storeA (vs := ints (ky (gr l i))) rfl rfl rfl (m3_0) (ints_ten hkl) (by rfl) (ints_one _)) ?_
    rintro v3_1 H3_1 ⟨hU3_1, hZ3_1⟩
    have mt := mt.off hU3_1.but (by first | exact nmt_3_0 | exact ⟨mt.ne m3_0 rfl⟩ | exact ⟨mt.ne m3_0 (by assumption)⟩ | exact ⟨Ne.symm (m3_0.ne mt (by assumption))⟩)
    have hR := hR.offT m3_0 hU3_1.but (by first | rfl | assumption)
    have m1_0 := m1_0.off hU3_1.but (by first | exact nm1_0_3_0 | exact ⟨m1_0.ne m3_0 rfl⟩ | exact ⟨m1_0.ne m3_0 (by assumption)⟩ | exact ⟨Ne.symm (m3_0.ne m1_0 (by assumption))⟩)
    have mi := mi.off hU3_1.but (by first | exact nmi_3_0 | exact ⟨mi.ne m3_0 rfl⟩ | exact ⟨mi.ne m3_0 (by assumption)⟩ | exact ⟨Ne.symm (m3_0.ne mi (by assumption))⟩)
    have ho := ho.offU m3_0 hU3_1.but (.inr pm3_0_ho)
    have hD := hD.off m3_0 hU3_1.but
    have hL := hL.off m3_0 hU3_1.but
    have hX := hX.upd hU3_1.but gb3_0
    have m3_0 := hU3_1.blk
    refine xl_nil ?_
    refine xasg_mk (RecKept.of hD0 hL0 hD hL) (fun Hb3 oD oL uB hD hL => ?_)
    have mt := mt.lp uB
    have hR := hR.lp uB
    have m1_0 := m1_0.lp uB
    have mi := mi.lp uB
    have ho := ho.lp uB
    have m3_0 := m3_0.lp uB
    have hX := hX.lp uB (Nat.le_succ_of_le hXs)
    have hD0 := hD; have hL0 := hL
    refine xc_block ?_
    refine xc_region ?_
    refine xl_light rfl rfl rfl (lv_load (v := .slice _ _ _) rfl rfl (ld_blk m1_0 rfl)) ?_
    refine xl_light rfl rfl rfl (lv_load (v := .agg _) rfl rfl (ld_ints m3_0 hkl)) ?_
    refine xl_heavy rfl rfl rfl (hv_buildSlice (cs := ints (ky (gr l i))) rfl rfl (parts1 (ints_ten hkl)) rfl rfl) ?_
    rintro v4_2 H4_2 ⟨b4_2, rfl, hN4_2⟩
    have gb4_2 := hX.fresh hN4_2
    have nmt_4_2 := mt.apart hN4_2
    have nm1_0_4_2 := m1_0.apart hN4_2
    have nmi_4_2 := mi.apart hN4_2
    have pm4_2_ho := ho.apartN hN4_2
    have nm3_0_4_2 := m3_0.apart hN4_2
    have mt := mt.ext hN4_2.ext
    have hR := hR.ext hN4_2.ext
    have m1_0 := m1_0.ext hN4_2.ext
    have mi := mi.ext hN4_2.ext
    have ho := ho.ext hN4_2.ext
    have hD := hD.ext hN4_2.ext
    have hL := hL.ext hN4_2.ext
    have m3_0 := m3_0.ext hN4_2.ext
    have hX := hX.trans hN4_2.ext
    have m4_2 := hN4_2.blk
    refine xl_heavy rfl rfl rfl (hv_append (size := 4) rfl rfl ho rfl m4_2.row (by simpa using ints_ten hkl) (ints_mem _) rfl (by decide) (by omega) (by omega) hX.size) ?_
    rintro v4_3 H4_3 ⟨hO4_3, hG4_3, -, hB4_3⟩
    have mt := mt.offT ho hG4_3 (by first | rfl | assumption)
    have hR := hR.growT ho hG4_3 (by first | rfl | assumption)
    have m1_0 := m1_0.offT ho hG4_3 rfl
    have mi := mi.offT ho hG4_3 rfl
    have hD := hD.grow ho hG4_3
    have hL := hL.grow ho hG4_3
    have lt_m3_0_4_3 := m3_0.lt
    have m3_0 := m3_0.offA hG4_3 (pm3_0_ho)
    have hX := ho.grown hX hG4_3 (Nat.le_refl _)
    have pm3_0_hO4_3 := OwnApart.grown pm3_0_ho hB4_3 (lt_m3_0_4_3)
    obtain ⟨a4_3, c4_3, rfl⟩ := hO4_3.val
    refine xl_store rfl rfl (hv_store (vs := [.slice _ _ _]) rfl rfl rfl (m1_0) rfl (Nat.le_of_ble_eq_true rfl) rfl) ?_
    rintro v4_4 H4_4 ⟨hU4_4, hZ4_4⟩
    have mt := mt.off hU4_4.but (by first | exact nmt_1_0 | exact ⟨mt.ne m1_0 rfl⟩ | exact ⟨mt.ne m1_0 (by assumption)⟩ | exact ⟨Ne.symm (m1_0.ne mt (by assumption))⟩)
    have hR := hR.offT m1_0 hU4_4.but (by first | rfl | assumption)
    have mi := mi.off hU4_4.but (by first | exact nm1_0_mi.symm | exact ⟨mi.ne m1_0 rfl⟩ | exact ⟨mi.ne m1_0 (by assumption)⟩ | exact ⟨Ne.symm (m1_0.ne mi (by assumption))⟩)
    have hD := hD.off m1_0 hU4_4.but
    have hL := hL.off m1_0 hU4_4.but
    have m3_0 := m3_0.off hU4_4.but (by first | exact nm1_0_3_0.symm | exact ⟨m3_0.ne m1_0 rfl⟩ | exact ⟨m3_0.ne m1_0 (by assumption)⟩ | exact ⟨Ne.symm (m1_0.ne m3_0 (by assumption))⟩)
    have hO4_3 := hO4_3.offU m1_0 hU4_4.but (.inl rfl)
    have hX := hX.upd hU4_4.but gb1_0
    have m1_0 := hU4_4.blk
    refine xl_nil ?_
    refine xblock_normal ?_
    exact xround_n (RecKept.of hD0 hL0 hD hL) ⟨_, _, m1_0, by rw [frf_take ky hi3]; exact hO4_3, hR, mt, mi, hX⟩
  · skip
    clear hX mt hR m1_0 mi
    rintro Hd3 ⟨va, vc, m1_0, ho, hR, mt, mi, hX⟩ hM
    replace m1_0 : Blk Hd3 b1_0 [.slice va (l.length) vc] 46 := m1_0
    replace ho : Own Hd3 H.size 23 4 (.slice va (l.length) vc) (l.length) (fr ((l.take (l.length)).map ky)) := ho
    replace hR : RowsT Hd3 69 5 a l := hR
    replace mt : Blk Hd3 bt (.slice a l.length c :: rest) t := mt
    replace mi : Blk Hd3 bi [.pointer (some ⟨bt, 0, none⟩)] 29 := mi
    replace hX : Ext H Hd3 := hX
    rw [List.take_length] at ho
    refine xc_seq ?_
    refine xc_region ?_
    refine xl_light rfl rfl rfl (lv_load (v := .slice _ _ _) rfl rfl (ld_blk m1_0 rfl)) ?_
    refine xl_pure rfl rfl rfl (pv_assign (v := .slice _ _ _) rfl rfl) ?_
    refine xl_nil ?_
    refine xthen_normal ?_
    refine xc_retm rfl hM.h ?_
    have uM := lpw_set (o' := .deferred none) hM.h hM.r
    have mt := mt.lp uM
    have hR := hR.lp uM
    have m1_0 := m1_0.lp uM
    have mi := mi.lp uM
    have ho := ho.lp uM
    have hX := hX.lp uM hXs
    refine xret_ret ?_
    refine fin_ret (res1 (v := .slice _ _ _) rfl rfl) ?_
    exact ⟨_, _, rfl, own_rowsT (n := l.length) (wide_ky hR.wide (by decide)) (by simpa using ho), hX⟩
  · skip
    intro _ h; exact h.elim

theorem c20n {O : Outer} {H : Heap}  :
    FnC Try.prog 20 #[.pointer none] O H (fun v H' => v = .slice none 0 0 ∧ Ext H H') := by
  refine fn_enter (A := [.pointer none]) Try.func20 rfl rfl ?_
  have hX := Ext.refl H
  refine xc_seq ?_
  refine xc_region ?_
  refine xl_pure rfl rfl rfl (pv_assign (v := .slice _ _ _) rfl rfl) ?_
  refine xl_nil ?_
  refine xthen_normal ?_
  refine xc_seq ?_
  refine xc_region ?_
  refine xl_heavy rfl rfl rfl (hv_alloc rfl rfl) ?_
  rintro v1_0 H1_0 ⟨b1_0, rfl, hN1_0⟩
  have gb1_0 := hX.fresh hN1_0
  have hX := hX.trans hN1_0.ext
  have m1_0 := hN1_0.blk
  refine xl_nil ?_
  refine xthen_normal ?_
  refine xc_seq_marks2 ?_
  refine xc_region ?_
  refine xl_pure rfl rfl rfl (pv_move (v := .pointer _) rfl rfl) ?_
  refine xl_heavy rfl rfl rfl (hv_call (g := 32) rfl rfl (c32 none) rfl) ?_
  rintro v2_1 H2_1 ⟨bi, rfl, hN2_1⟩
  have m1_0 := m1_0.ext hN2_1.ext
  have hX := hX.trans hN2_1.ext
  have mi := hN2_1.blk
  refine xl_nil ?_
  refine xthen_normal ?_
  have hXs := hX.size
  refine xs_rangeB (f := fun i => [.int .i64 0, .int .i64 0]) (n := 0) rfl (tAlln (b1 := bi) _) (fun _ => rfl) rfl (fun i H' => (Blk H' b1_0 [.slice none 0 0] 46) ∧ (Blk H' bi [.pointer none] 29) ∧ (Ext H H')) (fun H' => False) ?_ ?_ ?_ ?_ ?_ ?_ ?_ ?_ ?_ ?_
  · rintro i H1 H2 ⟨m1_0, mi, hX⟩ e; exact ⟨m1_0.ext e, mi.ext e, hX.trans e⟩
  · rintro i l H1 H2 hle ⟨m1_0, mi, hX⟩ u; exact ⟨m1_0.lp u, mi.lp u, hX.lp u (Nat.le_trans hXs hle)⟩
  · intro _ _ h; exact h.elim
  · intro _ _ _ _ h; exact h.elim
  · rintro H' ⟨m1_0, mi, hX⟩; exact mi
  · rintro i H' ⟨m1_0, mi, hX⟩; exact trivial
  · exact ⟨m1_0, mi, hX⟩
  · skip
    intro _ _ _ _ hi; exact absurd hi (Nat.not_lt_zero _)
  · skip
    clear hX m1_0 mi
    rintro Hd3 ⟨m1_0, mi, hX⟩ hM
    replace m1_0 : Blk Hd3 b1_0 [.slice none 0 0] 46 := m1_0
    replace mi : Blk Hd3 bi [.pointer none] 29 := mi
    replace hX : Ext H Hd3 := hX
    refine xc_seq ?_
    refine xc_region ?_
    refine xl_light rfl rfl rfl (lv_load (v := .slice _ _ _) rfl rfl (ld_blk m1_0 rfl)) ?_
    refine xl_pure rfl rfl rfl (pv_assign (v := .slice _ _ _) rfl rfl) ?_
    refine xl_nil ?_
    refine xthen_normal ?_
    refine xc_retm rfl hM.h ?_
    have uM := lpw_set (o' := .deferred none) hM.h hM.r
    have m1_0 := m1_0.lp uM
    have mi := mi.lp uM
    have hX := hX.lp uM hXs
    refine xret_ret ?_
    refine fin_ret (res1 (v := .slice _ _ _) rfl rfl) ?_
    exact ⟨rfl, hX⟩
  · skip
    intro _ h; exact h.elim
end Go.XG
