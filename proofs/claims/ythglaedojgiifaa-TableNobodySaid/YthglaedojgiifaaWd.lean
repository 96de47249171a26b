/-
  Walks of the seat's functions over the logic XG: each function, what it computes. Printed by a program out of wip/walks.py.
-/
import Derived.Test.YthglaedojgiifaaI
import Derived.Test.YthglaedojgiifaaTm
import Derived.Test.YthglaedojgiifaaTa
import Derived.Test.YthglaedojgiifaaTb
import Derived.Test.YthglaedojgiifaaTc
import Derived.Test.YthglaedojgiifaaTd
import Derived.Test.YthglaedojgiifaaTe
import Derived.Test.YthglaedojgiifaaP
import Derived.Test.YthglaedojgiifaaWa
import Derived.Test.YthglaedojgiifaaWb
import Derived.Test.YthglaedojgiifaaWc
namespace Go.XG
open Go.Proofs
set_option maxRecDepth 4000
set_option maxHeartbeats 4000000
theorem c14 {O : Outer} {H : Heap} {bt t c : Nat} {rest : List Value} {a : Option Addr} {l : List (List Int)} (mt : Blk H bt (.slice a l.length c :: rest) t) (hR : RowsT H 69 5 a l) (hne : Nat.beq t 69 = false) (hs : Srt l) (hc : l.length ≤ c) (hna : a = none → c = 0) (hl : l.length < 1099511627776) (hne2 : Nat.beq t 52 = false) (hne3 : Nat.beq t 33 = false) :
    FnC Try.prog 14 #[.pointer (some ⟨bt, 0, none⟩)] O H (fun v H' => ∃ a' c', v = .slice a' l.length c' ∧ RowsT H' 52 5 a' l ∧ Ext H H') := by
  refine fn_enter (A := [.pointer (some ⟨bt, 0, none⟩)]) Try.func14 rfl rfl ?_
  have hX := Ext.refl H
  refine xc_seq ?_
  refine xc_region ?_
  refine xl_pure rfl rfl rfl (pv_assign (v := .slice _ _ _) rfl rfl) ?_
  refine xl_nil ?_
  refine xthen_normal ?_
  refine xc_seq ?_
  refine xc_region ?_
  refine xl_heavy rfl rfl rfl (hv_alloc rfl rfl) ?_
  rintro v1_0 H1_0 ⟨b1_0, rfl, hN1_0⟩
  have gb1_0 := hX.fresh hN1_0
  have nmt_1_0 := mt.apart hN1_0
  have mt := mt.ext hN1_0.ext
  have hR := hR.ext hN1_0.ext
  have hX := hX.trans hN1_0.ext
  have m1_0 := hN1_0.blk
  refine xl_nil ?_
  refine xthen_normal ?_
  refine xc_seq ?_
  refine xc_region ?_
  refine xl_pure rfl rfl rfl (pv_move (v := .pointer _) rfl rfl) ?_
  refine xl_heavy rfl rfl rfl (hv_call (g := 32) rfl rfl (c32 (some ⟨bt, 0, none⟩)) rfl) ?_
  rintro v2_1 H2_1 ⟨bi, rfl, hN2_1⟩
  have nmt_mi := mt.apart hN2_1
  have m1_0 := m1_0.ext hN2_1.ext
  have mt := mt.ext hN2_1.ext
  have hR := hR.ext hN2_1.ext
  have hX := hX.trans hN2_1.ext
  have mi := hN2_1.blk
  refine xl_pure rfl rfl rfl (pv_assign rfl rfl) ?_
  refine xl_nil ?_
  refine xthen_normal ?_
  refine xc_seq ?_
  refine xc_seq ?_
  refine xc_region ?_
  refine xl_pure rfl rfl rfl (pv_move rfl rfl) ?_
  refine xl_pure rfl rfl rfl (pv_eql_fn rfl rfl rfl) ?_
  refine xl_nil ?_
  refine xthen_normal ?_
  refine xc_cond_f rfl ?_
  refine xc_skip ?_
  refine xthen_normal ?_
  refine xc_seq_marks2 ?_
  refine xc_region ?_
  refine xl_pure rfl rfl rfl (pv_move rfl rfl) ?_
  refine xl_nil ?_
  refine xthen_normal ?_
  have hXs := hX.size
  refine xs_rangeB (f := fun i => [.agg (ints (ky (gr l i))).toArray, .int .i64 ((gr l i).getD 4 0)]) (n := l.length) rfl (tAll (bt := bt) (t := t) (c := c) (rest := rest) (a := a) (l := l) hl) (fun _ => rfl) rfl (fun i H' => ∃ (va : Option Addr), ∃ (vc : Nat), (Blk H' b1_0 [.slice va i vc] 33) ∧ (Own H' H.size 52 5 (.slice va i vc) i (fr ((l.take i).map id))) ∧ (RowsT H' 69 5 a l) ∧ (Blk H' bt (.slice a l.length c :: rest) t) ∧ (Blk H' bi [.pointer (some ⟨bt, 0, none⟩)] 29) ∧ (Ext H H')) (fun H' => False) ?_ ?_ ?_ ?_ ?_ ?_ ?_ ?_ ?_ ?_
  · rintro i H1 H2 ⟨va, vc, m1_0, ho, hR, mt, mi, hX⟩ e; exact ⟨va, vc, m1_0.ext e, ho.ext e, hR.ext e, mt.ext e, mi.ext e, hX.trans e⟩
  · rintro i l H1 H2 hle ⟨va, vc, m1_0, ho, hR, mt, mi, hX⟩ u; exact ⟨va, vc, m1_0.lp u, ho.lp u, hR.lp u, mt.lp u, mi.lp u, hX.lp u (Nat.le_trans hXs hle)⟩
  · intro _ _ h; exact h.elim
  · intro _ _ _ _ h; exact h.elim
  · rintro H' ⟨va, vc, m1_0, ho, hR, mt, mi, hX⟩; exact ⟨mi, mt⟩
  · rintro i H' ⟨va, vc, m1_0, ho, hR, mt, mi, hX⟩; exact hR
  · exact ⟨none, 0, m1_0, by simpa [fr] using Own.nil _ H.size 52 5, hR, mt, mi, hX⟩
  · skip
    clear hX mt hR m1_0 mi
    rintro i Hr6 oD oL hi6 ⟨va, vc, m1_0, ho, hR, mt, mi, hX⟩ hD hL
    replace m1_0 : Blk Hr6 b1_0 [.slice va i vc] 33 := m1_0
    replace ho : Own Hr6 H.size 52 5 (.slice va i vc) i (fr ((l.take i).map id)) := ho
    replace hR : RowsT Hr6 69 5 a l := hR
    replace mt : Blk Hr6 bt (.slice a l.length c :: rest) t := mt
    replace mi : Blk Hr6 bi [.pointer (some ⟨bt, 0, none⟩)] 29 := mi
    replace hX : Ext H Hr6 := hX
    have hrl := hR.wide.get hi6
    have hkl := ky_len hrl (by decide)
    have hD0 := hD; have hL0 := hL
    show XC _ _ _ (upd (upd _ 12 (.agg (ints (ky (gr l i))).toArray)) 13 (.int .i64 ((gr l i).getD 4 0))) _
    refine xc_seq ?_
    refine xc_region ?_
    refine xl_heavy rfl rfl rfl (hv_alloc rfl rfl) ?_
    rintro v6_0 H6_0 ⟨b6_0, rfl, hN6_0⟩
    have gb6_0 := hX.fresh hN6_0
    have nmt_6_0 := mt.apart hN6_0
    have nm1_0_6_0 := m1_0.apart hN6_0
    have nmi_6_0 := mi.apart hN6_0
    have mt := mt.ext hN6_0.ext
    have hR := hR.ext hN6_0.ext
    have m1_0 := m1_0.ext hN6_0.ext
    have mi := mi.ext hN6_0.ext
    have ho := ho.ext hN6_0.ext
    have hD := hD.ext hN6_0.ext
    have hL := hL.ext hN6_0.ext
    have hX := hX.trans hN6_0.ext
    have m6_0 := hN6_0.blk
    refine xl_store rfl rfl (hv_storeA (vs := ints (ky (gr l i))) rfl rfl rfl (m6_0) (ints_ten hkl) (by rfl) (ints_one _)) ?_
    rintro v6_1 H6_1 ⟨hU6_1, hZ6_1⟩
    have mt := mt.off hU6_1.but (by first | exact nmt_6_0 | exact ⟨mt.ne m6_0 rfl⟩ | exact ⟨mt.ne m6_0 (by assumption)⟩ | exact ⟨Ne.symm (m6_0.ne mt (by assumption))⟩)
    have hR := hR.offT m6_0 hU6_1.but (by first | rfl | assumption)
    have m1_0 := m1_0.off hU6_1.but (by first | exact nm1_0_6_0 | exact ⟨m1_0.ne m6_0 rfl⟩ | exact ⟨m1_0.ne m6_0 (by assumption)⟩ | exact ⟨Ne.symm (m6_0.ne m1_0 (by assumption))⟩)
    have mi := mi.off hU6_1.but (by first | exact nmi_6_0 | exact ⟨mi.ne m6_0 rfl⟩ | exact ⟨mi.ne m6_0 (by assumption)⟩ | exact ⟨Ne.symm (m6_0.ne mi (by assumption))⟩)
    have ho := ho.offU m6_0 hU6_1.but (.inl rfl)
    have hD := hD.off m6_0 hU6_1.but
    have hL := hL.off m6_0 hU6_1.but
    have hX := hX.upd hU6_1.but gb6_0
    have m6_0 := hU6_1.blk
    refine xl_nil ?_
    refine xthen_normal ?_
    refine xc_region ?_
    refine xl_pure rfl rfl rfl (pv_assign (v := .int _ _) rfl rfl) ?_
    refine xl_nil ?_
    refine xasg_mk (RecKept.of hD0 hL0 hD hL) (fun Hb6 oD oL uB hD hL => ?_)
    have mt := mt.lp uB
    have hR := hR.lp uB
    have m1_0 := m1_0.lp uB
    have mi := mi.lp uB
    have ho := ho.lp uB
    have m6_0 := m6_0.lp uB
    have hX := hX.lp uB (Nat.le_succ_of_le hXs)
    have hD0 := hD; have hL0 := hL
    refine xc_block ?_
    refine xc_region ?_
    refine xl_light rfl rfl rfl (lv_load (v := .slice _ _ _) rfl rfl (ld_blk m1_0 rfl)) ?_
    refine xl_light rfl rfl rfl (lv_load (v := .agg _) rfl rfl (ld_ints m6_0 hkl)) ?_
    refine xl_pure rfl rfl rfl (pv_move (v := .int _ _) rfl rfl) ?_
    refine xl_pure rfl rfl rfl (pv_build_pair (xs := ints (ky (gr l i))) (ys := [.int .i64 ((gr l i).getD 4 0)]) rfl rfl rfl rfl rfl (by rw [ints_ten hkl]; rfl) (by rw [ints_ten hkl]; rfl) (by rw [ints_ten hkl]; rfl)) ?_
    refine xl_heavy rfl rfl rfl (hv_buildSlice (cs := ints (gr l i)) rfl rfl (by rw [← row_pair hrl]; exact parts1 (by rw [row_pair hrl]; exact ints_ten hrl)) rfl rfl) ?_
    rintro v8_4 H8_4 ⟨b8_4, rfl, hN8_4⟩
    have gb8_4 := hX.fresh hN8_4
    have nmt_8_4 := mt.apart hN8_4
    have nm1_0_8_4 := m1_0.apart hN8_4
    have nmi_8_4 := mi.apart hN8_4
    have pm8_4_ho := ho.apartN hN8_4
    have nm6_0_8_4 := m6_0.apart hN8_4
    have mt := mt.ext hN8_4.ext
    have hR := hR.ext hN8_4.ext
    have m1_0 := m1_0.ext hN8_4.ext
    have mi := mi.ext hN8_4.ext
    have ho := ho.ext hN8_4.ext
    have hD := hD.ext hN8_4.ext
    have hL := hL.ext hN8_4.ext
    have m6_0 := m6_0.ext hN8_4.ext
    have hX := hX.trans hN8_4.ext
    have m8_4 := hN8_4.blk
    refine xl_heavy rfl rfl rfl (hv_append (size := 5) rfl rfl ho rfl m8_4.row (by simpa using ints_ten hrl) (ints_mem _) rfl (by decide) (by omega) (by omega) hX.size) ?_
    rintro v8_5 H8_5 ⟨hO8_5, hG8_5, -, hB8_5⟩
    have mt := mt.offT ho hG8_5 (by first | rfl | assumption)
    have hR := hR.growT ho hG8_5 (by first | rfl | assumption)
    have m1_0 := m1_0.offT ho hG8_5 rfl
    have mi := mi.offT ho hG8_5 rfl
    have hD := hD.grow ho hG8_5
    have hL := hL.grow ho hG8_5
    have m6_0 := m6_0.offT ho hG8_5 rfl
    have hX := ho.grown hX hG8_5 (Nat.le_refl _)
    obtain ⟨a8_5, c8_5, rfl⟩ := hO8_5.val
    refine xl_store rfl rfl (hv_store (vs := [.slice _ _ _]) rfl rfl rfl (m1_0) rfl (Nat.le_of_ble_eq_true rfl) rfl) ?_
    rintro v8_6 H8_6 ⟨hU8_6, hZ8_6⟩
    have mt := mt.off hU8_6.but (by first | exact nmt_1_0 | exact ⟨mt.ne m1_0 rfl⟩ | exact ⟨mt.ne m1_0 (by assumption)⟩ | exact ⟨Ne.symm (m1_0.ne mt (by assumption))⟩)
    have hR := hR.offT m1_0 hU8_6.but (by first | rfl | assumption)
    have mi := mi.off hU8_6.but (by first | exact nm1_0_mi.symm | exact ⟨mi.ne m1_0 rfl⟩ | exact ⟨mi.ne m1_0 (by assumption)⟩ | exact ⟨Ne.symm (m1_0.ne mi (by assumption))⟩)
    have hD := hD.off m1_0 hU8_6.but
    have hL := hL.off m1_0 hU8_6.but
    have m6_0 := m6_0.off hU8_6.but (by first | exact nm1_0_6_0.symm | exact ⟨m6_0.ne m1_0 rfl⟩ | exact ⟨m6_0.ne m1_0 (by assumption)⟩ | exact ⟨Ne.symm (m1_0.ne m6_0 (by assumption))⟩)
    have hO8_5 := hO8_5.offU m1_0 hU8_6.but (.inl rfl)
    have hX := hX.upd hU8_6.but gb1_0
    have m1_0 := hU8_6.blk
    refine xl_nil ?_
    refine xblock_normal ?_
    exact xround_n (RecKept.of hD0 hL0 hD hL) ⟨_, _, m1_0, by rw [frf_take id hi6]; exact hO8_5, hR, mt, mi, hX⟩
  · skip
    clear hX mt hR m1_0 mi
    rintro Hd6 ⟨va, vc, m1_0, ho, hR, mt, mi, hX⟩ hM
    replace m1_0 : Blk Hd6 b1_0 [.slice va (l.length) vc] 33 := m1_0
    replace ho : Own Hd6 H.size 52 5 (.slice va (l.length) vc) (l.length) (fr ((l.take (l.length)).map id)) := ho
    replace hR : RowsT Hd6 69 5 a l := hR
    replace mt : Blk Hd6 bt (.slice a l.length c :: rest) t := mt
    replace mi : Blk Hd6 bi [.pointer (some ⟨bt, 0, none⟩)] 29 := mi
    replace hX : Ext H Hd6 := hX
    rw [List.take_length, List.map_id] at ho
    refine xc_seq ?_
    refine xc_region ?_
    refine xl_light rfl rfl rfl (lv_load (v := .slice _ _ _) rfl rfl (ld_blk m1_0 rfl)) ?_
    refine xl_pure rfl rfl rfl (pv_assign (v := .slice _ _ _) rfl rfl) ?_
    refine xl_nil ?_
    refine xthen_normal ?_
    refine xc_retm rfl hM.h ?_
    have uM := lpw_set (o' := .deferred none) hM.h hM.r
    have mt := mt.lp uM
    have hR := hR.lp uM
    have m1_0 := m1_0.lp uM
    have mi := mi.lp uM
    have ho := ho.lp uM
    have hX := hX.lp uM hXs
    refine xret_ret ?_
    refine fin_ret (res1 (v := .slice _ _ _) rfl rfl) ?_
    exact ⟨_, _, rfl, own_rowsT (n := l.length) hR.wide ho, hX⟩
  · skip
    intro _ h; exact h.elim
end Go.XG
