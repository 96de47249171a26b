/-
  Walks of the seat's functions over the logic XG: each function, what it computes. Printed by a program out of wip/walks.py.
-/
import Derived.Test.YthglaedojgiifaaI
import Derived.Test.YthglaedojgiifaaTm
import Derived.Test.YthglaedojgiifaaTa
import Derived.Test.YthglaedojgiifaaTb
import Derived.Test.YthglaedojgiifaaTc
import Derived.Test.YthglaedojgiifaaTd
import Derived.Test.YthglaedojgiifaaTe
import Derived.Test.YthglaedojgiifaaP
import Derived.Test.YthglaedojgiifaaWa
import Derived.Test.YthglaedojgiifaaWb
import Derived.Test.YthglaedojgiifaaWc
import Derived.Test.YthglaedojgiifaaWd
namespace Go.XG
open Go.Proofs
set_option maxRecDepth 4000
set_option maxHeartbeats 4000000
theorem c23 {O : Outer} {H : Heap} {bt t c : Nat} {rest : List Value} {a : Option Addr} {l : List (List Int)} (mt : Blk H bt (.slice a l.length c :: rest) t) (hR : RowsT H 69 5 a l) (hne : Nat.beq t 69 = false) (hs : Srt l) (hc : l.length ≤ c) (hna : a = none → c = 0) (hl : l.length < 1099511627776) (fk tk : List Int) (hf : fk.length = 4) (ht : tk.length = 4) (most : Int) (hne2 : Nat.beq t 52 = false) (hne3 : Nat.beq t 33 = false) :
    FnC Try.prog 23 #[.pointer (some ⟨bt, 0, none⟩), .agg (ints fk).toArray, .agg (ints tk).toArray, .int .i64 most] O H (fun v H' => ∃ a' c', v = .slice a' ((rngR l fk tk).take most.toNat).length c' ∧ RowsT H' 52 5 a' ((rngR l fk tk).take most.toNat) ∧ Ext H H') := by
  refine fn_enter (A := [.pointer (some ⟨bt, 0, none⟩), .agg (ints fk).toArray, .agg (ints tk).toArray, .int .i64 most]) Try.func23 rfl rfl ?_
  have hX := Ext.refl H
  refine xc_seq ?_
  refine xc_region ?_
  refine xl_heavy rfl rfl rfl (hv_box rfl rfl) ?_
  rintro v0_0 H0_0 ⟨b0_0, rfl, hN0_0⟩
  have gb0_0 := hX.fresh hN0_0
  have nmt_0_0 := mt.apart hN0_0
  have mt := mt.ext hN0_0.ext
  have hR := hR.ext hN0_0.ext
  have hX := hX.trans hN0_0.ext
  have m0_0 := hN0_0.blk
  refine xl_heavy rfl rfl rfl (hv_box rfl rfl) ?_
  rintro v0_1 H0_1 ⟨b0_1, rfl, hN0_1⟩
  have gb0_1 := hX.fresh hN0_1
  have nmt_0_1 := mt.apart hN0_1
  have nm0_0_0_1 := m0_0.apart hN0_1
  have mt := mt.ext hN0_1.ext
  have hR := hR.ext hN0_1.ext
  have m0_0 := m0_0.ext hN0_1.ext
  have hX := hX.trans hN0_1.ext
  have m0_1 := hN0_1.blk
  refine xl_heavy rfl rfl rfl (hv_box rfl rfl) ?_
  rintro v0_2 H0_2 ⟨b0_2, rfl, hN0_2⟩
  have gb0_2 := hX.fresh hN0_2
  have nmt_0_2 := mt.apart hN0_2
  have nm0_0_0_2 := m0_0.apart hN0_2
  have nm0_1_0_2 := m0_1.apart hN0_2
  have mt := mt.ext hN0_2.ext
  have hR := hR.ext hN0_2.ext
  have m0_0 := m0_0.ext hN0_2.ext
  have m0_1 := m0_1.ext hN0_2.ext
  have hX := hX.trans hN0_2.ext
  have m0_2 := hN0_2.blk
  refine xl_pure rfl rfl rfl (pv_assign (v := .slice _ _ _) rfl rfl) ?_
  refine xl_nil ?_
  refine xthen_normal ?_
  refine xc_seq ?_
  refine xc_region ?_
  refine xl_heavy rfl rfl rfl (hv_alloc rfl rfl) ?_
  rintro v1_0 H1_0 ⟨b1_0, rfl, hN1_0⟩
  have gb1_0 := hX.fresh hN1_0
  have nmt_1_0 := mt.apart hN1_0
  have nm0_0_1_0 := m0_0.apart hN1_0
  have nm0_1_1_0 := m0_1.apart hN1_0
  have nm0_2_1_0 := m0_2.apart hN1_0
  have mt := mt.ext hN1_0.ext
  have hR := hR.ext hN1_0.ext
  have m0_0 := m0_0.ext hN1_0.ext
  have m0_1 := m0_1.ext hN1_0.ext
  have m0_2 := m0_2.ext hN1_0.ext
  have hX := hX.trans hN1_0.ext
  have m1_0 := hN1_0.blk
  refine xl_nil ?_
  refine xthen_normal ?_
  refine xc_seq ?_
  refine xc_region ?_
  refine xl_pure rfl rfl rfl (pv_move (v := .pointer _) rfl rfl) ?_
  refine xl_light rfl rfl rfl (lv_load (v := .agg _) rfl rfl (ld_ints m0_0 hf)) ?_
  refine xl_light rfl rfl rfl (lv_load (v := .agg _) rfl rfl (ld_ints m0_1 ht)) ?_
  refine xl_heavy rfl rfl rfl (hv_call (g := 33) rfl rfl (c33 (some ⟨bt, 0, none⟩) fk tk hf ht) rfl) ?_
  rintro v2_3 H2_3 ⟨bi, bj, bk, rfl, mi, mj, mk, hE2_3⟩
  have mt := mt.ext hE2_3
  have hR := hR.ext hE2_3
  have m0_0 := m0_0.ext hE2_3
  have m0_1 := m0_1.ext hE2_3
  have m0_2 := m0_2.ext hE2_3
  have m1_0 := m1_0.ext hE2_3
  have hX := hX.trans hE2_3
  refine xl_pure rfl rfl rfl (pv_assign rfl rfl) ?_
  refine xl_nil ?_
  refine xthen_normal ?_
  refine xc_seq ?_
  refine xc_seq ?_
  refine xc_region ?_
  refine xl_pure rfl rfl rfl (pv_move rfl rfl) ?_
  refine xl_pure rfl rfl rfl (pv_eql_fn rfl rfl rfl) ?_
  refine xl_nil ?_
  refine xthen_normal ?_
  refine xc_cond_f rfl ?_
  refine xc_skip ?_
  refine xthen_normal ?_
  refine xc_seq_marks2 ?_
  have hwR : Wide 5 (rngR l fk tk) := hR.wide.take.drop
  have hlR : (rngR l fk tk).length ≤ l.length := by rw [← rng_len]; have := bel_le l fk; have := bel_le l tk; omega
  refine xc_region ?_
  refine xl_pure rfl rfl rfl (pv_move rfl rfl) ?_
  refine xl_nil ?_
  refine xthen_normal ?_
  have hXs := hX.size
  refine xs_rangeB (f := fun i => [.agg (ints (ky (gr (rngR l fk tk) i))).toArray, .int .i64 ((gr (rngR l fk tk) i).getD 4 0)]) (n := (rngR l fk tk).length) rfl (tRange (bt := bt) (b1 := bi) (b2 := bj) (b3 := bk) (t := t) (c := c) (rest := rest) (a := a) (l := l) hl hne hs hc hna fk tk hf ht) (fun _ => rfl) rfl (fun i H' => ∃ (va : Option Addr), ∃ (vc : Nat), (Blk H' b1_0 [.slice va i vc] 33) ∧ (Own H' H.size 52 5 (.slice va i vc) i (fr ((rngR l fk tk).take i))) ∧ (RowsT H' 69 5 a l) ∧ (Blk H' bt (.slice a l.length c :: rest) t) ∧ (Blk H' bi [.pointer (some ⟨bt, 0, none⟩)] 29) ∧ (Blk H' bj (ints fk) 23) ∧ (Blk H' bk (ints tk) 23) ∧ (Blk H' b0_2 [.int .i64 most] 3) ∧ (i ≤ most.toNat) ∧ (Ext H H')) (fun H' => ∃ (va : Option Addr), ∃ (vc : Nat), (Blk H' b1_0 [.slice va ((rngR l fk tk).take most.toNat).length vc] 33) ∧ (Own H' H.size 52 5 (.slice va ((rngR l fk tk).take most.toNat).length vc) ((rngR l fk tk).take most.toNat).length (fr ((rngR l fk tk).take most.toNat))) ∧ (Ext H H')) ?_ ?_ ?_ ?_ ?_ ?_ ?_ ?_ ?_ ?_
  · rintro i H1 H2 ⟨va, vc, m1_0, ho, hR, mt, mi, mj, mk, m0_2, him, hX⟩ e; exact ⟨va, vc, m1_0.ext e, ho.ext e, hR.ext e, mt.ext e, mi.ext e, mj.ext e, mk.ext e, m0_2.ext e, him, hX.trans e⟩
  · rintro i l H1 H2 hle ⟨va, vc, m1_0, ho, hR, mt, mi, mj, mk, m0_2, him, hX⟩ u; exact ⟨va, vc, m1_0.lp u, ho.lp u, hR.lp u, mt.lp u, mi.lp u, mj.lp u, mk.lp u, m0_2.lp u, him, hX.lp u (Nat.le_trans hXs hle)⟩
  · rintro H1 H2 ⟨va, vc, m1_0, ho, hX⟩ e; exact ⟨va, vc, m1_0.ext e, ho.ext e, hX.trans e⟩
  · rintro l H1 H2 hle ⟨va, vc, m1_0, ho, hX⟩ u; exact ⟨va, vc, m1_0.lp u, ho.lp u, hX.lp u (Nat.le_trans hXs hle)⟩
  · rintro H' ⟨va, vc, m1_0, ho, hR, mt, mi, mj, mk, m0_2, him, hX⟩; exact ⟨mi, mj, mk, mt⟩
  · rintro i H' ⟨va, vc, m1_0, ho, hR, mt, mi, mj, mk, m0_2, him, hX⟩; exact hR
  · exact ⟨none, 0, m1_0, by simpa [fr] using Own.nil _ H.size 52 5, hR, mt, mi, mj, mk, m0_2, Nat.zero_le _, hX⟩
  · skip
    clear hX mt hR m0_0 m0_1 m0_2 m1_0 mi mj mk
    rintro i Hr6 oD oL hi6 ⟨va, vc, m1_0, ho, hR, mt, mi, mj, mk, m0_2, him, hX⟩ hD hL
    replace m1_0 : Blk Hr6 b1_0 [.slice va i vc] 33 := m1_0
    replace ho : Own Hr6 H.size 52 5 (.slice va i vc) i (fr ((rngR l fk tk).take i)) := ho
    replace hR : RowsT Hr6 69 5 a l := hR
    replace mt : Blk Hr6 bt (.slice a l.length c :: rest) t := mt
    replace mi : Blk Hr6 bi [.pointer (some ⟨bt, 0, none⟩)] 29 := mi
    replace mj : Blk Hr6 bj (ints fk) 23 := mj
    replace mk : Blk Hr6 bk (ints tk) 23 := mk
    replace m0_2 : Blk Hr6 b0_2 [.int .i64 most] 3 := m0_2
    replace him : i ≤ most.toNat := him
    replace hX : Ext H Hr6 := hX
    have hrl := hwR.get hi6
    have hkl := ky_len hrl (by decide)
    have hD0 := hD; have hL0 := hL
    show XC _ _ _ (upd (upd _ 20 (.agg (ints (ky (gr (rngR l fk tk) i))).toArray)) 21 (.int .i64 ((gr (rngR l fk tk) i).getD 4 0))) _
    refine xc_seq ?_
    refine xc_region ?_
    refine xl_heavy rfl rfl rfl (hv_alloc rfl rfl) ?_
    rintro v6_0 H6_0 ⟨b6_0, rfl, hN6_0⟩
    have gb6_0 := hX.fresh hN6_0
    have nmt_6_0 := mt.apart hN6_0
    have nm0_2_6_0 := m0_2.apart hN6_0
    have nm1_0_6_0 := m1_0.apart hN6_0
    have nmi_6_0 := mi.apart hN6_0
    have nmj_6_0 := mj.apart hN6_0
    have nmk_6_0 := mk.apart hN6_0
    have mt := mt.ext hN6_0.ext
    have hR := hR.ext hN6_0.ext
    have m0_2 := m0_2.ext hN6_0.ext
    have m1_0 := m1_0.ext hN6_0.ext
    have mi := mi.ext hN6_0.ext
    have mj := mj.ext hN6_0.ext
    have mk := mk.ext hN6_0.ext
    have ho := ho.ext hN6_0.ext
    have hD := hD.ext hN6_0.ext
    have hL := hL.ext hN6_0.ext
    have hX := hX.trans hN6_0.ext
    have m6_0 := hN6_0.blk
    refine xl_store rfl rfl (hv_storeA (vs := ints (ky (gr (rngR l fk tk) i))) rfl rfl rfl (m6_0) (ints_ten hkl) (by rfl) (ints_one _)) ?_
    rintro v6_1 H6_1 ⟨hU6_1, hZ6_1⟩
    have mt := mt.off hU6_1.but (by first | exact nmt_6_0 | exact ⟨mt.ne m6_0 rfl⟩ | exact ⟨mt.ne m6_0 (by assumption)⟩ | exact ⟨Ne.symm (m6_0.ne mt (by assumption))⟩)
    have hR := hR.offT m6_0 hU6_1.but (by first | rfl | assumption)
    have m0_2 := m0_2.off hU6_1.but (by first | exact nm0_2_6_0 | exact ⟨m0_2.ne m6_0 rfl⟩ | exact ⟨m0_2.ne m6_0 (by assumption)⟩ | exact ⟨Ne.symm (m6_0.ne m0_2 (by assumption))⟩)
    have m1_0 := m1_0.off hU6_1.but (by first | exact nm1_0_6_0 | exact ⟨m1_0.ne m6_0 rfl⟩ | exact ⟨m1_0.ne m6_0 (by assumption)⟩ | exact ⟨Ne.symm (m6_0.ne m1_0 (by assumption))⟩)
    have mi := mi.off hU6_1.but (by first | exact nmi_6_0 | exact ⟨mi.ne m6_0 rfl⟩ | exact ⟨mi.ne m6_0 (by assumption)⟩ | exact ⟨Ne.symm (m6_0.ne mi (by assumption))⟩)
    have mj := mj.off hU6_1.but (by first | exact nmj_6_0 | exact ⟨mj.ne m6_0 rfl⟩ | exact ⟨mj.ne m6_0 (by assumption)⟩ | exact ⟨Ne.symm (m6_0.ne mj (by assumption))⟩)
    have mk := mk.off hU6_1.but (by first | exact nmk_6_0 | exact ⟨mk.ne m6_0 rfl⟩ | exact ⟨mk.ne m6_0 (by assumption)⟩ | exact ⟨Ne.symm (m6_0.ne mk (by assumption))⟩)
    have ho := ho.offU m6_0 hU6_1.but (.inl rfl)
    have hD := hD.off m6_0 hU6_1.but
    have hL := hL.off m6_0 hU6_1.but
    have hX := hX.upd hU6_1.but gb6_0
    have m6_0 := hU6_1.blk
    refine xl_nil ?_
    refine xthen_normal ?_
    refine xc_region ?_
    refine xl_pure rfl rfl rfl (pv_assign (v := .int _ _) rfl rfl) ?_
    refine xl_nil ?_
    refine xasg_mk (RecKept.of hD0 hL0 hD hL) (fun Hb6 oD oL uB hD hL => ?_)
    have mt := mt.lp uB
    have hR := hR.lp uB
    have m0_2 := m0_2.lp uB
    have m1_0 := m1_0.lp uB
    have mi := mi.lp uB
    have mj := mj.lp uB
    have mk := mk.lp uB
    have ho := ho.lp uB
    have m6_0 := m6_0.lp uB
    have hX := hX.lp uB (Nat.le_succ_of_le hXs)
    have hD0 := hD; have hL0 := hL
    refine xc_block ?_
    refine xc_seq ?_
    refine xc_seq ?_
    refine xc_region ?_
    refine xl_light rfl rfl rfl (lv_load (v := .slice _ _ _) rfl rfl (ld_blk m1_0 rfl)) ?_
    refine xl_pure rfl rfl rfl (pv_len_l rfl rfl) ?_
    refine xl_light rfl rfl rfl (lv_load (v := .int _ _) rfl rfl (ld_blk m0_2 rfl)) ?_
    refine xl_dec rfl rfl rfl (pv_geq rfl rfl rfl) (fun h8_3 => ?_) (fun h8_3 => ?_)
    · skip
      refine xl_nil ?_
      refine xthen_normal ?_
      refine xc_cond_t rfl ?_
      refine xc_exit ?_
      refine xthen_exit ?_
      refine xblock_other rfl ?_
      exact xround_x (RecKept.of hD0 hL0 hD hL) ⟨rfl, va, vc, by rw [show ((rngR l fk tk).take most.toNat).length = i by rw [List.length_take]; omega]; exact m1_0, by rw [show ((rngR l fk tk).take most.toNat).length = i by rw [List.length_take]; omega, show most.toNat = i by omega]; exact ho, hX⟩
    · skip
      refine xl_nil ?_
      refine xthen_normal ?_
      refine xc_cond_f rfl ?_
      refine xc_skip ?_
      refine xthen_normal ?_
      refine xc_region ?_
      refine xl_light rfl rfl rfl (lv_load (v := .slice _ _ _) rfl rfl (ld_blk m1_0 rfl)) ?_
      refine xl_light rfl rfl rfl (lv_load (v := .agg _) rfl rfl (ld_ints m6_0 hkl)) ?_
      refine xl_pure rfl rfl rfl (pv_move (v := .int _ _) rfl rfl) ?_
      refine xl_pure rfl rfl rfl (pv_build_pair (xs := ints (ky (gr (rngR l fk tk) i))) (ys := [.int .i64 ((gr (rngR l fk tk) i).getD 4 0)]) rfl rfl rfl rfl rfl (by rw [ints_ten hkl]; rfl) (by rw [ints_ten hkl]; rfl) (by rw [ints_ten hkl]; rfl)) ?_
      refine xl_heavy rfl rfl rfl (hv_buildSlice (cs := ints (gr (rngR l fk tk) i)) rfl rfl (by rw [← row_pair hrl]; exact parts1 (by rw [row_pair hrl]; exact ints_ten hrl)) rfl rfl) ?_
      rintro v9_4 H9_4 ⟨b9_4, rfl, hN9_4⟩
      have gb9_4 := hX.fresh hN9_4
      have nmt_9_4 := mt.apart hN9_4
      have nm0_2_9_4 := m0_2.apart hN9_4
      have nm1_0_9_4 := m1_0.apart hN9_4
      have nmi_9_4 := mi.apart hN9_4
      have nmj_9_4 := mj.apart hN9_4
      have nmk_9_4 := mk.apart hN9_4
      have pm9_4_ho := ho.apartN hN9_4
      have nm6_0_9_4 := m6_0.apart hN9_4
      have mt := mt.ext hN9_4.ext
      have hR := hR.ext hN9_4.ext
      have m0_2 := m0_2.ext hN9_4.ext
      have m1_0 := m1_0.ext hN9_4.ext
      have mi := mi.ext hN9_4.ext
      have mj := mj.ext hN9_4.ext
      have mk := mk.ext hN9_4.ext
      have ho := ho.ext hN9_4.ext
      have hD := hD.ext hN9_4.ext
      have hL := hL.ext hN9_4.ext
      have m6_0 := m6_0.ext hN9_4.ext
      have hX := hX.trans hN9_4.ext
      have m9_4 := hN9_4.blk
      refine xl_heavy rfl rfl rfl (hv_append (size := 5) rfl rfl ho rfl m9_4.row (by simpa using ints_ten hrl) (ints_mem _) rfl (by decide) (by omega) (by omega) hX.size) ?_
      rintro v9_5 H9_5 ⟨hO9_5, hG9_5, -, hB9_5⟩
      have mt := mt.offT ho hG9_5 (by first | rfl | assumption)
      have hR := hR.growT ho hG9_5 (by first | rfl | assumption)
      have m0_2 := m0_2.offT ho hG9_5 rfl
      have m1_0 := m1_0.offT ho hG9_5 rfl
      have mi := mi.offT ho hG9_5 rfl
      have mj := mj.offT ho hG9_5 rfl
      have mk := mk.offT ho hG9_5 rfl
      have hD := hD.grow ho hG9_5
      have hL := hL.grow ho hG9_5
      have m6_0 := m6_0.offT ho hG9_5 rfl
      have hX := ho.grown hX hG9_5 (Nat.le_refl _)
      obtain ⟨a9_5, c9_5, rfl⟩ := hO9_5.val
      refine xl_store rfl rfl (hv_store (vs := [.slice _ _ _]) rfl rfl rfl (m1_0) rfl (Nat.le_of_ble_eq_true rfl) rfl) ?_
      rintro v9_6 H9_6 ⟨hU9_6, hZ9_6⟩
      have mt := mt.off hU9_6.but (by first | exact nmt_1_0 | exact ⟨mt.ne m1_0 rfl⟩ | exact ⟨mt.ne m1_0 (by assumption)⟩ | exact ⟨Ne.symm (m1_0.ne mt (by assumption))⟩)
      have hR := hR.offT m1_0 hU9_6.but (by first | rfl | assumption)
      have m0_2 := m0_2.off hU9_6.but (by first | exact nm0_2_1_0 | exact ⟨m0_2.ne m1_0 rfl⟩ | exact ⟨m0_2.ne m1_0 (by assumption)⟩ | exact ⟨Ne.symm (m1_0.ne m0_2 (by assumption))⟩)
      have mi := mi.off hU9_6.but (by first | exact nm1_0_mi.symm | exact ⟨mi.ne m1_0 rfl⟩ | exact ⟨mi.ne m1_0 (by assumption)⟩ | exact ⟨Ne.symm (m1_0.ne mi (by assumption))⟩)
      have mj := mj.off hU9_6.but (by first | exact nm1_0_mj.symm | exact ⟨mj.ne m1_0 rfl⟩ | exact ⟨mj.ne m1_0 (by assumption)⟩ | exact ⟨Ne.symm (m1_0.ne mj (by assumption))⟩)
      have mk := mk.off hU9_6.but (by first | exact nm1_0_mk.symm | exact ⟨mk.ne m1_0 rfl⟩ | exact ⟨mk.ne m1_0 (by assumption)⟩ | exact ⟨Ne.symm (m1_0.ne mk (by assumption))⟩)
      have hD := hD.off m1_0 hU9_6.but
      have hL := hL.off m1_0 hU9_6.but
      have m6_0 := m6_0.off hU9_6.but (by first | exact nm1_0_6_0.symm | exact ⟨m6_0.ne m1_0 rfl⟩ | exact ⟨m6_0.ne m1_0 (by assumption)⟩ | exact ⟨Ne.symm (m1_0.ne m6_0 (by assumption))⟩)
      have hO9_5 := hO9_5.offU m1_0 hU9_6.but (.inl rfl)
      have hX := hX.upd hU9_6.but gb1_0
      have m1_0 := hU9_6.blk
      refine xl_nil ?_
      refine xblock_normal ?_
      exact xround_n (RecKept.of hD0 hL0 hD hL) ⟨_, _, m1_0, by rw [frs_take hi6]; exact hO9_5, hR, mt, mi, mj, mk, m0_2, by omega, hX⟩
  · skip
    clear hX mt hR m0_0 m0_1 m0_2 m1_0 mi mj mk
    rintro Hd6 ⟨va, vc, m1_0, ho, hR, mt, mi, mj, mk, m0_2, him, hX⟩ hM
    replace m1_0 : Blk Hd6 b1_0 [.slice va ((rngR l fk tk).length) vc] 33 := m1_0
    replace ho : Own Hd6 H.size 52 5 (.slice va ((rngR l fk tk).length) vc) ((rngR l fk tk).length) (fr ((rngR l fk tk).take ((rngR l fk tk).length))) := ho
    replace hR : RowsT Hd6 69 5 a l := hR
    replace mt : Blk Hd6 bt (.slice a l.length c :: rest) t := mt
    replace mi : Blk Hd6 bi [.pointer (some ⟨bt, 0, none⟩)] 29 := mi
    replace mj : Blk Hd6 bj (ints fk) 23 := mj
    replace mk : Blk Hd6 bk (ints tk) 23 := mk
    replace m0_2 : Blk Hd6 b0_2 [.int .i64 most] 3 := m0_2
    replace him : ((rngR l fk tk).length) ≤ most.toNat := him
    replace hX : Ext H Hd6 := hX
    rw [List.take_length] at ho
    have eT : ((rngR l fk tk).take most.toNat) = (rngR l fk tk) := List.take_of_length_le him
    refine xc_seq ?_
    refine xc_region ?_
    refine xl_light rfl rfl rfl (lv_load (v := .slice _ _ _) rfl rfl (ld_blk m1_0 rfl)) ?_
    refine xl_pure rfl rfl rfl (pv_assign (v := .slice _ _ _) rfl rfl) ?_
    refine xl_nil ?_
    refine xthen_normal ?_
    refine xc_retm rfl hM.h ?_
    have uM := lpw_set (o' := .deferred none) hM.h hM.r
    have mt := mt.lp uM
    have hR := hR.lp uM
    have m0_2 := m0_2.lp uM
    have m1_0 := m1_0.lp uM
    have mi := mi.lp uM
    have mj := mj.lp uM
    have mk := mk.lp uM
    have ho := ho.lp uM
    have hX := hX.lp uM hXs
    refine xret_ret ?_
    refine fin_ret (res1 (v := .slice _ _ _) rfl rfl) ?_
    first | exact ⟨_, _, slv (by rw [eT]), by rw [eT]; exact own_rowsT (n := (rngR l fk tk).length) hwR ho, hX⟩ | exact ⟨_, _, rfl, own_rowsT (n := ((rngR l fk tk).take most.toNat).length) hwR.take ho, hX⟩
  · skip
    clear hX mt hR m0_0 m0_1 m0_2 m1_0 mi mj mk
    rintro Hx6 ⟨va, vc, m1_0, ho, hX⟩ hM
    replace m1_0 : Blk Hx6 b1_0 [.slice va ((rngR l fk tk).take most.toNat).length vc] 33 := m1_0
    replace ho : Own Hx6 H.size 52 5 (.slice va ((rngR l fk tk).take most.toNat).length vc) ((rngR l fk tk).take most.toNat).length (fr ((rngR l fk tk).take most.toNat)) := ho
    replace hX : Ext H Hx6 := hX
    refine xc_seq ?_
    refine xc_region ?_
    refine xl_light rfl rfl rfl (lv_load (v := .slice _ _ _) rfl rfl (ld_blk m1_0 rfl)) ?_
    refine xl_pure rfl rfl rfl (pv_assign (v := .slice _ _ _) rfl rfl) ?_
    refine xl_nil ?_
    refine xthen_normal ?_
    refine xc_retm rfl hM.h ?_
    have uM := lpw_set (o' := .deferred none) hM.h hM.r
    have m1_0 := m1_0.lp uM
    have ho := ho.lp uM
    have hX := hX.lp uM hXs
    refine xret_ret ?_
    refine fin_ret (res1 (v := .slice _ _ _) rfl rfl) ?_
    first | exact ⟨_, _, slv (by rw [eT]), by rw [eT]; exact own_rowsT (n := (rngR l fk tk).length) hwR ho, hX⟩ | exact ⟨_, _, rfl, own_rowsT (n := ((rngR l fk tk).take most.toNat).length) hwR.take ho, hX⟩

theorem c17 {O : Outer} {H : Heap} {bt t c : Nat} {rest : List Value} {a : Option Addr} {l : List (List Int)} (mt : Blk H bt (.slice a l.length c :: rest) t) (hR : RowsT H 69 5 a l) (hne : Nat.beq t 69 = false) (hs : Srt l) (hc : l.length ≤ c) (hna : a = none → c = 0) (hl : l.length < 1099511627776) (hne2 : Nat.beq t 52 = false) (hne3 : Nat.beq t 33 = false) :
    FnC Try.prog 17 #[.pointer (some ⟨bt, 0, none⟩)] O H (fun v H' => ∃ a' c' a2 c2, v = .slice a' l.length c' ∧ RowsT H' 52 5 a' l ∧ But bt H H' ∧ Blk H' bt (.slice a2 0 c2 :: rest) t) := by
  refine fn_enter (A := [.pointer (some ⟨bt, 0, none⟩)]) Try.func17 rfl rfl ?_
  have hX := But.refl bt H
  refine xc_seq ?_
  refine xc_region ?_
  refine xl_heavy rfl rfl rfl (hv_box rfl rfl) ?_
  rintro v0_0 H0_0 ⟨b0_0, rfl, hN0_0⟩
  have gb0_0 := hX.fresh hN0_0
  have nmt_0_0 := mt.apart hN0_0
  have mt := mt.ext hN0_0.ext
  have hR := hR.ext hN0_0.ext
  have hX := hX.transE hN0_0.ext
  have m0_0 := hN0_0.blk
  refine xl_pure rfl rfl rfl (pv_assign (v := .slice _ _ _) rfl rfl) ?_
  refine xl_nil ?_
  refine xthen_normal ?_
  refine xc_seq ?_
  refine xc_region ?_
  refine xl_heavy rfl rfl rfl (hv_alloc rfl rfl) ?_
  rintro v1_0 H1_0 ⟨b1_0, rfl, hN1_0⟩
  have gb1_0 := hX.fresh hN1_0
  have nmt_1_0 := mt.apart hN1_0
  have nm0_0_1_0 := m0_0.apart hN1_0
  have mt := mt.ext hN1_0.ext
  have hR := hR.ext hN1_0.ext
  have m0_0 := m0_0.ext hN1_0.ext
  have hX := hX.transE hN1_0.ext
  have m1_0 := hN1_0.blk
  refine xl_nil ?_
  refine xthen_normal ?_
  refine xc_seq ?_
  refine xc_region ?_
  refine xl_light rfl rfl rfl (lv_load (v := .pointer _) rfl rfl (ld_blk m0_0 rfl)) ?_
  refine xl_heavy rfl rfl rfl (hv_call (g := 32) rfl rfl (c32 (some ⟨bt, 0, none⟩)) rfl) ?_
  rintro v2_1 H2_1 ⟨bi, rfl, hN2_1⟩
  have nmt_mi := mt.apart hN2_1
  have m1_0 := m1_0.ext hN2_1.ext
  have mt := mt.ext hN2_1.ext
  have hR := hR.ext hN2_1.ext
  have m0_0 := m0_0.ext hN2_1.ext
  have hX := hX.transE hN2_1.ext
  have mi := hN2_1.blk
  refine xl_pure rfl rfl rfl (pv_assign rfl rfl) ?_
  refine xl_nil ?_
  refine xthen_normal ?_
  refine xc_seq ?_
  refine xc_seq ?_
  refine xc_region ?_
  refine xl_pure rfl rfl rfl (pv_move rfl rfl) ?_
  refine xl_pure rfl rfl rfl (pv_eql_fn rfl rfl rfl) ?_
  refine xl_nil ?_
  refine xthen_normal ?_
  refine xc_cond_f rfl ?_
  refine xc_skip ?_
  refine xthen_normal ?_
  refine xc_seq_marks2 ?_
  refine xc_region ?_
  refine xl_pure rfl rfl rfl (pv_move rfl rfl) ?_
  refine xl_nil ?_
  refine xthen_normal ?_
  have hXs := hX.size
  refine xs_rangeB (f := fun i => [.agg (ints (ky (gr l i))).toArray, .int .i64 ((gr l i).getD 4 0)]) (n := l.length) rfl (tAll (bt := bt) (b1 := bi) (t := t) (c := c) (rest := rest) (a := a) (l := l) hl) (fun _ => rfl) rfl (fun i H' => ∃ (va : Option Addr), ∃ (vc : Nat), ∃ (at_ : Option Addr), ∃ (ct : Nat), (Blk H' b1_0 [.slice va i vc] 33) ∧ (Own H' H.size 52 5 (.slice va i vc) i (fr (l.take i))) ∧ (RowsT H' 69 5 a l) ∧ (Blk H' bt (.slice at_ (goneR l i).length ct :: rest) t) ∧ (RowsT H' 69 5 at_ (goneR l i)) ∧ ((goneR l i).length ≤ ct) ∧ (at_ = none → ct = 0) ∧ (i = 0 → at_ = a ∧ ct = c) ∧ (Blk H' bi [.pointer (some ⟨bt, 0, none⟩)] 29) ∧ (Blk H' b0_0 [.pointer (some ⟨bt, 0, none⟩)] 29) ∧ (But bt H H')) (fun H' => False) ?_ ?_ ?_ ?_ ?_ ?_ ?_ ?_ ?_ ?_
  · rintro i H1 H2 ⟨va, vc, at_, ct, m1_0, ho, hR, mt, hRt, hct, hnat, h00, mi, m0_0, hX⟩ e; exact ⟨va, vc, at_, ct, m1_0.ext e, ho.ext e, hR.ext e, mt.ext e, hRt.ext e, hct, hnat, h00, mi.ext e, m0_0.ext e, hX.transE e⟩
  · rintro i l H1 H2 hle ⟨va, vc, at_, ct, m1_0, ho, hR, mt, hRt, hct, hnat, h00, mi, m0_0, hX⟩ u; exact ⟨va, vc, at_, ct, m1_0.lp u, ho.lp u, hR.lp u, mt.lp u, hRt.lp u, hct, hnat, h00, mi.lp u, m0_0.lp u, hX.lp u (Nat.le_trans hXs hle)⟩
  · intro _ _ h; exact h.elim
  · intro _ _ _ _ h; exact h.elim
  · rintro H' ⟨va, vc, at_, ct, m1_0, ho, hR, mt, hRt, hct, hnat, h00, mi, m0_0, hX⟩; exact ⟨mi, by rw [← (h00 rfl).1, ← (h00 rfl).2]; exact mt⟩
  · rintro i H' ⟨va, vc, at_, ct, m1_0, ho, hR, mt, hRt, hct, hnat, h00, mi, m0_0, hX⟩; exact hR
  · exact ⟨none, 0, a, c, m1_0, by simpa [fr] using Own.nil _ H.size 52 5, hR, mt, hR, hc, hna, fun _ => ⟨rfl, rfl⟩, mi, m0_0, hX⟩
  · skip
    clear hX mt hR m0_0 m1_0 mi
    rintro i Hr6 oD oL hi6 ⟨va, vc, at_, ct, m1_0, ho, hR, mt, hRt, hct, hnat, h00, mi, m0_0, hX⟩ hD hL
    replace m1_0 : Blk Hr6 b1_0 [.slice va i vc] 33 := m1_0
    replace ho : Own Hr6 H.size 52 5 (.slice va i vc) i (fr (l.take i)) := ho
    replace hR : RowsT Hr6 69 5 a l := hR
    replace mt : Blk Hr6 bt (.slice at_ (goneR l i).length ct :: rest) t := mt
    replace hRt : RowsT Hr6 69 5 at_ (goneR l i) := hRt
    replace hct : (goneR l i).length ≤ ct := hct
    replace hnat : at_ = none → ct = 0 := hnat
    replace h00 : i = 0 → at_ = a ∧ ct = c := h00
    replace mi : Blk Hr6 bi [.pointer (some ⟨bt, 0, none⟩)] 29 := mi
    replace m0_0 : Blk Hr6 b0_0 [.pointer (some ⟨bt, 0, none⟩)] 29 := m0_0
    replace hX : But bt H Hr6 := hX
    have hrl := hR.wide.get hi6
    have hkl := ky_len hrl (by decide)
    obtain ⟨hgs, hgw, hgl⟩ := gone_ok hs hR.wide i
    have hD0 := hD; have hL0 := hL
    show XC _ _ _ (upd (upd _ 15 (.agg (ints (ky (gr l i))).toArray)) 16 (.int .i64 ((gr l i).getD 4 0))) _
    refine xc_seq ?_
    refine xc_region ?_
    refine xl_heavy rfl rfl rfl (hv_alloc rfl rfl) ?_
    rintro v6_0 H6_0 ⟨b6_0, rfl, hN6_0⟩
    have gb6_0 := hX.fresh hN6_0
    have nmt_6_0 := mt.apart hN6_0
    have nm0_0_6_0 := m0_0.apart hN6_0
    have nm1_0_6_0 := m1_0.apart hN6_0
    have nmi_6_0 := mi.apart hN6_0
    have mt := mt.ext hN6_0.ext
    have hR := hR.ext hN6_0.ext
    have m0_0 := m0_0.ext hN6_0.ext
    have m1_0 := m1_0.ext hN6_0.ext
    have mi := mi.ext hN6_0.ext
    have ho := ho.ext hN6_0.ext
    have hRt := hRt.ext hN6_0.ext
    have hD := hD.ext hN6_0.ext
    have hL := hL.ext hN6_0.ext
    have hX := hX.transE hN6_0.ext
    have m6_0 := hN6_0.blk
    refine xl_store rfl rfl (hv_storeA (vs := ints (ky (gr l i))) rfl rfl rfl (m6_0) (ints_ten hkl) (by rfl) (ints_one _)) ?_
    rintro v6_1 H6_1 ⟨hU6_1, hZ6_1⟩
    have mt := mt.off hU6_1.but (by first | exact nmt_6_0 | exact ⟨mt.ne m6_0 rfl⟩ | exact ⟨mt.ne m6_0 (by assumption)⟩ | exact ⟨Ne.symm (m6_0.ne mt (by assumption))⟩)
    have hR := hR.offT m6_0 hU6_1.but (by first | rfl | assumption)
    have m0_0 := m0_0.off hU6_1.but (by first | exact nm0_0_6_0 | exact ⟨m0_0.ne m6_0 rfl⟩ | exact ⟨m0_0.ne m6_0 (by assumption)⟩ | exact ⟨Ne.symm (m6_0.ne m0_0 (by assumption))⟩)
    have m1_0 := m1_0.off hU6_1.but (by first | exact nm1_0_6_0 | exact ⟨m1_0.ne m6_0 rfl⟩ | exact ⟨m1_0.ne m6_0 (by assumption)⟩ | exact ⟨Ne.symm (m6_0.ne m1_0 (by assumption))⟩)
    have mi := mi.off hU6_1.but (by first | exact nmi_6_0 | exact ⟨mi.ne m6_0 rfl⟩ | exact ⟨mi.ne m6_0 (by assumption)⟩ | exact ⟨Ne.symm (m6_0.ne mi (by assumption))⟩)
    have ho := ho.offU m6_0 hU6_1.but (.inl rfl)
    have hRt := hRt.offT m6_0 hU6_1.but (by first | rfl | assumption)
    have hD := hD.off m6_0 hU6_1.but
    have hL := hL.off m6_0 hU6_1.but
    have hX := hX.upd hU6_1.but gb6_0
    have m6_0 := hU6_1.blk
    refine xl_nil ?_
    refine xthen_normal ?_
    refine xc_region ?_
    refine xl_pure rfl rfl rfl (pv_assign (v := .int _ _) rfl rfl) ?_
    refine xl_nil ?_
    refine xasg_mk (RecKept.of hD0 hL0 hD hL) (fun Hb6 oD oL uB hD hL => ?_)
    have mt := mt.lp uB
    have hR := hR.lp uB
    have m0_0 := m0_0.lp uB
    have m1_0 := m1_0.lp uB
    have mi := mi.lp uB
    have ho := ho.lp uB
    have hRt := hRt.lp uB
    have m6_0 := m6_0.lp uB
    have hX := hX.lp uB (Nat.le_succ_of_le hXs)
    have hD0 := hD; have hL0 := hL
    refine xc_block ?_
    refine xc_seq ?_
    refine xc_region ?_
    refine xl_light rfl rfl rfl (lv_load (v := .pointer _) rfl rfl (ld_blk m0_0 rfl)) ?_
    refine xl_light rfl rfl rfl (lv_load (v := .agg _) rfl rfl (ld_ints m6_0 hkl)) ?_
    refine xl_heavy rfl rfl rfl (hv_call (g := 15) rfl rfl (c15 mt hRt hne hgs hct hnat (by omega) (ky (gr l i)) hkl) rfl) ?_
    rintro v8_2 H8_2 ⟨a8_2, c8_2, rfl, hU8_2, hR8_2, hc8_2, hna8_2⟩
    have hR := hR.offT mt hU8_2.but (by first | rfl | assumption)
    have m0_0 := m0_0.off hU8_2.but (by first | exact nmt_0_0.symm | exact ⟨m0_0.ne mt rfl⟩ | exact ⟨m0_0.ne mt (by assumption)⟩ | exact ⟨Ne.symm (mt.ne m0_0 (by assumption))⟩)
    have m1_0 := m1_0.off hU8_2.but (by first | exact nmt_1_0.symm | exact ⟨m1_0.ne mt rfl⟩ | exact ⟨m1_0.ne mt (by assumption)⟩ | exact ⟨Ne.symm (mt.ne m1_0 (by assumption))⟩)
    have mi := mi.off hU8_2.but (by first | exact nmt_mi.symm | exact ⟨mi.ne mt rfl⟩ | exact ⟨mi.ne mt (by assumption)⟩ | exact ⟨Ne.symm (mt.ne mi (by assumption))⟩)
    have ho := ho.offU mt hU8_2.but (.inl (by first | rfl | assumption))
    have hRt := hRt.offT mt hU8_2.but (by first | rfl | assumption)
    have hD := hD.off mt hU8_2.but
    have hL := hL.off mt hU8_2.but
    have m6_0 := m6_0.off hU8_2.but (by first | exact nmt_6_0.symm | exact ⟨m6_0.ne mt rfl⟩ | exact ⟨m6_0.ne mt (by assumption)⟩ | exact ⟨Ne.symm (mt.ne m6_0 (by assumption))⟩)
    have hX := hX.trans hU8_2.but
    have mt := hU8_2.blk
    have hD1 := gone_one hs hi6
    rw [hD1] at mt hR8_2 hc8_2
    have hsz := srt_drop hs (i + 1)
    have hlz : (l.drop (i + 1)).length < 1099511627776 := by rw [List.length_drop]; omega
    refine xl_nil ?_
    refine xthen_normal ?_
    refine xc_seq ?_
    refine xc_seq ?_
    refine xc_region ?_
    refine xl_light rfl rfl rfl (lv_load (v := .pointer _) rfl rfl (ld_blk m0_0 rfl)) ?_
    refine xl_heavy rfl rfl rfl (hv_call (g := 22) rfl rfl (c22 mt hR8_2 hne hsz hc8_2 hna8_2 hlz 0) rfl) ?_
    rintro v9_1 H9_1 ⟨hv9_1, hE9_1⟩
    have mt := mt.ext hE9_1
    have hR := hR.ext hE9_1
    have m0_0 := m0_0.ext hE9_1
    have m1_0 := m1_0.ext hE9_1
    have mi := mi.ext hE9_1
    have ho := ho.ext hE9_1
    have hRt := hRt.ext hE9_1
    have hD := hD.ext hE9_1
    have hL := hL.ext hE9_1
    have m6_0 := m6_0.ext hE9_1
    have hR8_2 := hR8_2.ext hE9_1
    have hX := hX.transE hE9_1
    rcases hv9_1 with ⟨-, hlt0, rfl⟩ | ⟨hno0, rfl⟩
    · skip
      refine xl_pure rfl rfl rfl (pv_move (v := .tuple _) rfl rfl) ?_
      refine xl_pure rfl rfl rfl (pv_extract (v := .agg _) rfl rfl rfl) ?_
      refine xl_pure rfl rfl rfl (pv_extract (v := .int _ _) rfl rfl rfl) ?_
      refine xl_pure rfl rfl rfl (pv_extract (v := .bool _) rfl rfl rfl) ?_
      try have hkz := ky_len (hR8_2.wide.get (show 0 < (l.drop (i + 1)).length by omega)) (by decide)
      refine xl_heavy rfl rfl rfl (hv_alloc rfl rfl) ?_
      rintro v9_6 H9_6 ⟨b9_6, rfl, hN9_6⟩
      have gb9_6 := hX.fresh hN9_6
      have nmt_9_6 := mt.apart hN9_6
      have nm0_0_9_6 := m0_0.apart hN9_6
      have nm1_0_9_6 := m1_0.apart hN9_6
      have nmi_9_6 := mi.apart hN9_6
      have nm6_0_9_6 := m6_0.apart hN9_6
      have mt := mt.ext hN9_6.ext
      have hR := hR.ext hN9_6.ext
      have m0_0 := m0_0.ext hN9_6.ext
      have m1_0 := m1_0.ext hN9_6.ext
      have mi := mi.ext hN9_6.ext
      have ho := ho.ext hN9_6.ext
      have hRt := hRt.ext hN9_6.ext
      have hD := hD.ext hN9_6.ext
      have hL := hL.ext hN9_6.ext
      have m6_0 := m6_0.ext hN9_6.ext
      have hR8_2 := hR8_2.ext hN9_6.ext
      have hX := hX.transE hN9_6.ext
      have m9_6 := hN9_6.blk
      refine xl_store rfl rfl (hv_storeA (vs := ints (ky (gr (l.drop (i + 1)) 0))) rfl rfl rfl (m9_6) (ints_ten hkz) (by rfl) (ints_one _)) ?_
      rintro v9_7 H9_7 ⟨hU9_7, hZ9_7⟩
      have mt := mt.off hU9_7.but (by first | exact nmt_9_6 | exact ⟨mt.ne m9_6 rfl⟩ | exact ⟨mt.ne m9_6 (by assumption)⟩ | exact ⟨Ne.symm (m9_6.ne mt (by assumption))⟩)
      have hR := hR.offT m9_6 hU9_7.but (by first | rfl | assumption)
      have m0_0 := m0_0.off hU9_7.but (by first | exact nm0_0_9_6 | exact ⟨m0_0.ne m9_6 rfl⟩ | exact ⟨m0_0.ne m9_6 (by assumption)⟩ | exact ⟨Ne.symm (m9_6.ne m0_0 (by assumption))⟩)
      have m1_0 := m1_0.off hU9_7.but (by first | exact nm1_0_9_6 | exact ⟨m1_0.ne m9_6 rfl⟩ | exact ⟨m1_0.ne m9_6 (by assumption)⟩ | exact ⟨Ne.symm (m9_6.ne m1_0 (by assumption))⟩)
      have mi := mi.off hU9_7.but (by first | exact nmi_9_6 | exact ⟨mi.ne m9_6 rfl⟩ | exact ⟨mi.ne m9_6 (by assumption)⟩ | exact ⟨Ne.symm (m9_6.ne mi (by assumption))⟩)
      have ho := ho.offU m9_6 hU9_7.but (.inl rfl)
      have hRt := hRt.offT m9_6 hU9_7.but (by first | rfl | assumption)
      have hD := hD.off m9_6 hU9_7.but
      have hL := hL.off m9_6 hU9_7.but
      have m6_0 := m6_0.off hU9_7.but (by first | exact nm6_0_9_6 | exact ⟨m6_0.ne m9_6 rfl⟩ | exact ⟨m6_0.ne m9_6 (by assumption)⟩ | exact ⟨Ne.symm (m9_6.ne m6_0 (by assumption))⟩)
      have hR8_2 := hR8_2.offT m9_6 hU9_7.but (by first | rfl | assumption)
      have hX := hX.upd hU9_7.but gb9_6
      have m9_6 := hU9_7.blk
      refine xl_pure rfl rfl rfl (pv_assign (v := .int _ _) rfl rfl) ?_
      refine xl_pure rfl rfl rfl (pv_assign (v := .bool _) rfl rfl) ?_
      refine xl_nil ?_
      refine xthen_normal ?_
      refine xc_seq ?_
      refine xc_region ?_
      refine xl_pure rfl rfl rfl (pv_move (v := .bool _) rfl rfl) ?_
      refine xl_nil ?_
      refine xthen_normal ?_
      refine xc_cond_t rfl ?_
      refine xc_region ?_
      refine xl_light rfl rfl rfl (lv_load (v := .pointer _) rfl rfl (ld_blk m0_0 rfl)) ?_
      refine xl_light rfl rfl rfl (lv_load (v := .agg _) rfl rfl (ld_ints m9_6 hkz)) ?_
      refine xl_heavy rfl rfl rfl (hv_call (g := 15) rfl rfl (c15 mt hR8_2 hne hsz hc8_2 hna8_2 hlz (ky (gr (l.drop (i + 1)) 0)) hkz) rfl) ?_
      rintro v11_2 H11_2 ⟨a11_2, c11_2, rfl, hU11_2, hR11_2, hc11_2, hna11_2⟩
      have hR := hR.offT mt hU11_2.but (by first | rfl | assumption)
      have m0_0 := m0_0.off hU11_2.but (by first | exact nmt_0_0.symm | exact ⟨m0_0.ne mt rfl⟩ | exact ⟨m0_0.ne mt (by assumption)⟩ | exact ⟨Ne.symm (mt.ne m0_0 (by assumption))⟩)
      have m1_0 := m1_0.off hU11_2.but (by first | exact nmt_1_0.symm | exact ⟨m1_0.ne mt rfl⟩ | exact ⟨m1_0.ne mt (by assumption)⟩ | exact ⟨Ne.symm (mt.ne m1_0 (by assumption))⟩)
      have mi := mi.off hU11_2.but (by first | exact nmt_mi.symm | exact ⟨mi.ne mt rfl⟩ | exact ⟨mi.ne mt (by assumption)⟩ | exact ⟨Ne.symm (mt.ne mi (by assumption))⟩)
      have ho := ho.offU mt hU11_2.but (.inl (by first | rfl | assumption))
      have hRt := hRt.offT mt hU11_2.but (by first | rfl | assumption)
      have hD := hD.off mt hU11_2.but
      have hL := hL.off mt hU11_2.but
      have m6_0 := m6_0.off hU11_2.but (by first | exact nmt_6_0.symm | exact ⟨m6_0.ne mt rfl⟩ | exact ⟨m6_0.ne mt (by assumption)⟩ | exact ⟨Ne.symm (mt.ne m6_0 (by assumption))⟩)
      have hR8_2 := hR8_2.offT mt hU11_2.but (by first | rfl | assumption)
      have m9_6 := m9_6.off hU11_2.but (by first | exact nmt_9_6.symm | exact ⟨m9_6.ne mt rfl⟩ | exact ⟨m9_6.ne mt (by assumption)⟩ | exact ⟨Ne.symm (mt.ne m9_6 (by assumption))⟩)
      have hX := hX.trans hU11_2.but
      have mt := hU11_2.blk
      have hD2 := gone_two hs (i := i) (by omega)
      rw [hD2] at mt hR11_2 hc11_2
      refine xl_nil ?_
      refine xthen_normal ?_
      refine xc_region ?_
      refine xl_light rfl rfl rfl (lv_load (v := .slice _ _ _) rfl rfl (ld_blk m1_0 rfl)) ?_
      refine xl_light rfl rfl rfl (lv_load (v := .agg _) rfl rfl (ld_ints m6_0 hkl)) ?_
      refine xl_pure rfl rfl rfl (pv_move (v := .int _ _) rfl rfl) ?_
      refine xl_pure rfl rfl rfl (pv_build_pair (xs := ints (ky (gr l i))) (ys := [.int .i64 ((gr l i).getD 4 0)]) rfl rfl rfl rfl rfl (by rw [ints_ten hkl]; rfl) (by rw [ints_ten hkl]; rfl) (by rw [ints_ten hkl]; rfl)) ?_
      refine xl_heavy rfl rfl rfl (hv_buildSlice (cs := ints (gr l i)) rfl rfl (by rw [← row_pair hrl]; exact parts1 (by rw [row_pair hrl]; exact ints_ten hrl)) rfl rfl) ?_
      rintro v12_4 H12_4 ⟨b12_4, rfl, hN12_4⟩
      have gb12_4 := hX.fresh hN12_4
      have nmt_12_4 := mt.apart hN12_4
      have nm0_0_12_4 := m0_0.apart hN12_4
      have nm1_0_12_4 := m1_0.apart hN12_4
      have nmi_12_4 := mi.apart hN12_4
      have pm12_4_ho := ho.apartN hN12_4
      have nm6_0_12_4 := m6_0.apart hN12_4
      have nm9_6_12_4 := m9_6.apart hN12_4
      have mt := mt.ext hN12_4.ext
      have hR := hR.ext hN12_4.ext
      have m0_0 := m0_0.ext hN12_4.ext
      have m1_0 := m1_0.ext hN12_4.ext
      have mi := mi.ext hN12_4.ext
      have ho := ho.ext hN12_4.ext
      have hRt := hRt.ext hN12_4.ext
      have hD := hD.ext hN12_4.ext
      have hL := hL.ext hN12_4.ext
      have m6_0 := m6_0.ext hN12_4.ext
      have hR8_2 := hR8_2.ext hN12_4.ext
      have m9_6 := m9_6.ext hN12_4.ext
      have hR11_2 := hR11_2.ext hN12_4.ext
      have hX := hX.transE hN12_4.ext
      have m12_4 := hN12_4.blk
      refine xl_heavy rfl rfl rfl (hv_append (size := 5) rfl rfl ho rfl m12_4.row (by simpa using ints_ten hrl) (ints_mem _) rfl (by decide) (by omega) (by omega) hX.size) ?_
      rintro v12_5 H12_5 ⟨hO12_5, hG12_5, -, hB12_5⟩
      have mt := mt.offT ho hG12_5 (by first | rfl | assumption)
      have hR := hR.growT ho hG12_5 (by first | rfl | assumption)
      have m0_0 := m0_0.offT ho hG12_5 rfl
      have m1_0 := m1_0.offT ho hG12_5 rfl
      have mi := mi.offT ho hG12_5 rfl
      have hRt := hRt.growT ho hG12_5 (by first | rfl | assumption)
      have hD := hD.grow ho hG12_5
      have hL := hL.grow ho hG12_5
      have m6_0 := m6_0.offT ho hG12_5 rfl
      have hR8_2 := hR8_2.growT ho hG12_5 (by first | rfl | assumption)
      have m9_6 := m9_6.offT ho hG12_5 rfl
      have hR11_2 := hR11_2.growT ho hG12_5 (by first | rfl | assumption)
      have hX := ho.grownB hX hG12_5 (Nat.le_refl _)
      obtain ⟨a12_5, c12_5, rfl⟩ := hO12_5.val
      refine xl_store rfl rfl (hv_store (vs := [.slice _ _ _]) rfl rfl rfl (m1_0) rfl (Nat.le_of_ble_eq_true rfl) rfl) ?_
      rintro v12_6 H12_6 ⟨hU12_6, hZ12_6⟩
      have mt := mt.off hU12_6.but (by first | exact nmt_1_0 | exact ⟨mt.ne m1_0 rfl⟩ | exact ⟨mt.ne m1_0 (by assumption)⟩ | exact ⟨Ne.symm (m1_0.ne mt (by assumption))⟩)
      have hR := hR.offT m1_0 hU12_6.but (by first | rfl | assumption)
      have m0_0 := m0_0.off hU12_6.but (by first | exact nm0_0_1_0 | exact ⟨m0_0.ne m1_0 rfl⟩ | exact ⟨m0_0.ne m1_0 (by assumption)⟩ | exact ⟨Ne.symm (m1_0.ne m0_0 (by assumption))⟩)
      have mi := mi.off hU12_6.but (by first | exact nm1_0_mi.symm | exact ⟨mi.ne m1_0 rfl⟩ | exact ⟨mi.ne m1_0 (by assumption)⟩ | exact ⟨Ne.symm (m1_0.ne mi (by assumption))⟩)
      have hRt := hRt.offT m1_0 hU12_6.but (by first | rfl | assumption)
      have hD := hD.off m1_0 hU12_6.but
      have hL := hL.off m1_0 hU12_6.but
      have m6_0 := m6_0.off hU12_6.but (by first | exact nm1_0_6_0.symm | exact ⟨m6_0.ne m1_0 rfl⟩ | exact ⟨m6_0.ne m1_0 (by assumption)⟩ | exact ⟨Ne.symm (m1_0.ne m6_0 (by assumption))⟩)
      have hR8_2 := hR8_2.offT m1_0 hU12_6.but (by first | rfl | assumption)
      have m9_6 := m9_6.off hU12_6.but (by first | exact nm1_0_9_6.symm | exact ⟨m9_6.ne m1_0 rfl⟩ | exact ⟨m9_6.ne m1_0 (by assumption)⟩ | exact ⟨Ne.symm (m1_0.ne m9_6 (by assumption))⟩)
      have hR11_2 := hR11_2.offT m1_0 hU12_6.but (by first | rfl | assumption)
      have hO12_5 := hO12_5.offU m1_0 hU12_6.but (.inl rfl)
      have hX := hX.upd hU12_6.but gb1_0
      have m1_0 := hU12_6.blk
      refine xl_nil ?_
      refine xblock_normal ?_
      first
        | exact xround_n (RecKept.of hD0 hL0 hD hL) ⟨_, _, _, _, m1_0, by rw [frs_take hi6]; exact hO12_5, hR, mt, hR11_2, hc11_2, hna11_2, fun h => absurd h (by omega), mi, m0_0, hX⟩
        | exact xround_n (RecKept.of hD0 hL0 hD hL) ⟨_, _, _, _, m1_0, by rw [frs_take hi6]; exact hO12_5, hR, by rw [← gone_none (l := l) (i := i) (by omega)]; exact mt, by rw [← gone_none (l := l) (i := i) (by omega)]; exact hR8_2, by rw [← gone_none (l := l) (i := i) (by omega)]; exact hc8_2, hna8_2, fun h => absurd h (by omega), mi, m0_0, hX⟩
    · skip
      refine xl_pure rfl rfl rfl (pv_move (v := .tuple _) rfl rfl) ?_
      refine xl_pure rfl rfl rfl (pv_extract (v := .agg _) rfl rfl rfl) ?_
      refine xl_pure rfl rfl rfl (pv_extract (v := .int _ _) rfl rfl rfl) ?_
      refine xl_pure rfl rfl rfl (pv_extract (v := .bool _) rfl rfl rfl) ?_
      try have hkz := ky_len (hR8_2.wide.get (show 0 < (l.drop (i + 1)).length by omega)) (by decide)
      refine xl_heavy rfl rfl rfl (hv_alloc rfl rfl) ?_
      rintro v9_6 H9_6 ⟨b9_6, rfl, hN9_6⟩
      have gb9_6 := hX.fresh hN9_6
      have nmt_9_6 := mt.apart hN9_6
      have nm0_0_9_6 := m0_0.apart hN9_6
      have nm1_0_9_6 := m1_0.apart hN9_6
      have nmi_9_6 := mi.apart hN9_6
      have nm6_0_9_6 := m6_0.apart hN9_6
      have mt := mt.ext hN9_6.ext
      have hR := hR.ext hN9_6.ext
      have m0_0 := m0_0.ext hN9_6.ext
      have m1_0 := m1_0.ext hN9_6.ext
      have mi := mi.ext hN9_6.ext
      have ho := ho.ext hN9_6.ext
      have hRt := hRt.ext hN9_6.ext
      have hD := hD.ext hN9_6.ext
      have hL := hL.ext hN9_6.ext
      have m6_0 := m6_0.ext hN9_6.ext
      have hR8_2 := hR8_2.ext hN9_6.ext
      have hX := hX.transE hN9_6.ext
      have m9_6 := hN9_6.blk
      refine xl_store rfl rfl (hv_storeA (vs := [.int _ _, .int _ _, .int _ _, .int _ _]) rfl rfl rfl (m9_6) rfl (by rfl) rfl) ?_
      rintro v9_7 H9_7 ⟨hU9_7, hZ9_7⟩
      have mt := mt.off hU9_7.but (by first | exact nmt_9_6 | exact ⟨mt.ne m9_6 rfl⟩ | exact ⟨mt.ne m9_6 (by assumption)⟩ | exact ⟨Ne.symm (m9_6.ne mt (by assumption))⟩)
      have hR := hR.offT m9_6 hU9_7.but (by first | rfl | assumption)
      have m0_0 := m0_0.off hU9_7.but (by first | exact nm0_0_9_6 | exact ⟨m0_0.ne m9_6 rfl⟩ | exact ⟨m0_0.ne m9_6 (by assumption)⟩ | exact ⟨Ne.symm (m9_6.ne m0_0 (by assumption))⟩)
      have m1_0 := m1_0.off hU9_7.but (by first | exact nm1_0_9_6 | exact ⟨m1_0.ne m9_6 rfl⟩ | exact ⟨m1_0.ne m9_6 (by assumption)⟩ | exact ⟨Ne.symm (m9_6.ne m1_0 (by assumption))⟩)
      have mi := mi.off hU9_7.but (by first | exact nmi_9_6 | exact ⟨mi.ne m9_6 rfl⟩ | exact ⟨mi.ne m9_6 (by assumption)⟩ | exact ⟨Ne.symm (m9_6.ne mi (by assumption))⟩)
      have ho := ho.offU m9_6 hU9_7.but (.inl rfl)
      have hRt := hRt.offT m9_6 hU9_7.but (by first | rfl | assumption)
      have hD := hD.off m9_6 hU9_7.but
      have hL := hL.off m9_6 hU9_7.but
      have m6_0 := m6_0.off hU9_7.but (by first | exact nm6_0_9_6 | exact ⟨m6_0.ne m9_6 rfl⟩ | exact ⟨m6_0.ne m9_6 (by assumption)⟩ | exact ⟨Ne.symm (m9_6.ne m6_0 (by assumption))⟩)
      have hR8_2 := hR8_2.offT m9_6 hU9_7.but (by first | rfl | assumption)
      have hX := hX.upd hU9_7.but gb9_6
      have m9_6 := hU9_7.blk
      refine xl_pure rfl rfl rfl (pv_assign (v := .int _ _) rfl rfl) ?_
      refine xl_pure rfl rfl rfl (pv_assign (v := .bool _) rfl rfl) ?_
      refine xl_nil ?_
      refine xthen_normal ?_
      refine xc_seq ?_
      refine xc_region ?_
      refine xl_pure rfl rfl rfl (pv_move (v := .bool _) rfl rfl) ?_
      refine xl_nil ?_
      refine xthen_normal ?_
      refine xc_cond_f rfl ?_
      refine xc_skip ?_
      refine xthen_normal ?_
      refine xc_region ?_
      refine xl_light rfl rfl rfl (lv_load (v := .slice _ _ _) rfl rfl (ld_blk m1_0 rfl)) ?_
      refine xl_light rfl rfl rfl (lv_load (v := .agg _) rfl rfl (ld_ints m6_0 hkl)) ?_
      refine xl_pure rfl rfl rfl (pv_move (v := .int _ _) rfl rfl) ?_
      refine xl_pure rfl rfl rfl (pv_build_pair (xs := ints (ky (gr l i))) (ys := [.int .i64 ((gr l i).getD 4 0)]) rfl rfl rfl rfl rfl (by rw [ints_ten hkl]; rfl) (by rw [ints_ten hkl]; rfl) (by rw [ints_ten hkl]; rfl)) ?_
      refine xl_heavy rfl rfl rfl (hv_buildSlice (cs := ints (gr l i)) rfl rfl (by rw [← row_pair hrl]; exact parts1 (by rw [row_pair hrl]; exact ints_ten hrl)) rfl rfl) ?_
      rintro v12_4 H12_4 ⟨b12_4, rfl, hN12_4⟩
      have gb12_4 := hX.fresh hN12_4
      have nmt_12_4 := mt.apart hN12_4
      have nm0_0_12_4 := m0_0.apart hN12_4
      have nm1_0_12_4 := m1_0.apart hN12_4
      have nmi_12_4 := mi.apart hN12_4
      have pm12_4_ho := ho.apartN hN12_4
      have nm6_0_12_4 := m6_0.apart hN12_4
      have nm9_6_12_4 := m9_6.apart hN12_4
      have mt := mt.ext hN12_4.ext
      have hR := hR.ext hN12_4.ext
      have m0_0 := m0_0.ext hN12_4.ext
      have m1_0 := m1_0.ext hN12_4.ext
      have mi := mi.ext hN12_4.ext
      have ho := ho.ext hN12_4.ext
      have hRt := hRt.ext hN12_4.ext
      have hD := hD.ext hN12_4.ext
      have hL := hL.ext hN12_4.ext
      have m6_0 := m6_0.ext hN12_4.ext
      have hR8_2 := hR8_2.ext hN12_4.ext
      have m9_6 := m9_6.ext hN12_4.ext
      have hX := hX.transE hN12_4.ext
      have m12_4 := hN12_4.blk
      refine xl_heavy rfl rfl rfl (hv_append (size := 5) rfl rfl ho rfl m12_4.row (by simpa using ints_ten hrl) (ints_mem _) rfl (by decide) (by omega) (by omega) hX.size) ?_
      rintro v12_5 H12_5 ⟨hO12_5, hG12_5, -, hB12_5⟩
      have mt := mt.offT ho hG12_5 (by first | rfl | assumption)
      have hR := hR.growT ho hG12_5 (by first | rfl | assumption)
      have m0_0 := m0_0.offT ho hG12_5 rfl
      have m1_0 := m1_0.offT ho hG12_5 rfl
      have mi := mi.offT ho hG12_5 rfl
      have hRt := hRt.growT ho hG12_5 (by first | rfl | assumption)
      have hD := hD.grow ho hG12_5
      have hL := hL.grow ho hG12_5
      have m6_0 := m6_0.offT ho hG12_5 rfl
      have hR8_2 := hR8_2.growT ho hG12_5 (by first | rfl | assumption)
      have m9_6 := m9_6.offT ho hG12_5 rfl
      have hX := ho.grownB hX hG12_5 (Nat.le_refl _)
      obtain ⟨a12_5, c12_5, rfl⟩ := hO12_5.val
      refine xl_store rfl rfl (hv_store (vs := [.slice _ _ _]) rfl rfl rfl (m1_0) rfl (Nat.le_of_ble_eq_true rfl) rfl) ?_
      rintro v12_6 H12_6 ⟨hU12_6, hZ12_6⟩
      have mt := mt.off hU12_6.but (by first | exact nmt_1_0 | exact ⟨mt.ne m1_0 rfl⟩ | exact ⟨mt.ne m1_0 (by assumption)⟩ | exact ⟨Ne.symm (m1_0.ne mt (by assumption))⟩)
      have hR := hR.offT m1_0 hU12_6.but (by first | rfl | assumption)
      have m0_0 := m0_0.off hU12_6.but (by first | exact nm0_0_1_0 | exact ⟨m0_0.ne m1_0 rfl⟩ | exact ⟨m0_0.ne m1_0 (by assumption)⟩ | exact ⟨Ne.symm (m1_0.ne m0_0 (by assumption))⟩)
      have mi := mi.off hU12_6.but (by first | exact nm1_0_mi.symm | exact ⟨mi.ne m1_0 rfl⟩ | exact ⟨mi.ne m1_0 (by assumption)⟩ | exact ⟨Ne.symm (m1_0.ne mi (by assumption))⟩)
      have hRt := hRt.offT m1_0 hU12_6.but (by first | rfl | assumption)
      have hD := hD.off m1_0 hU12_6.but
      have hL := hL.off m1_0 hU12_6.but
      have m6_0 := m6_0.off hU12_6.but (by first | exact nm1_0_6_0.symm | exact ⟨m6_0.ne m1_0 rfl⟩ | exact ⟨m6_0.ne m1_0 (by assumption)⟩ | exact ⟨Ne.symm (m1_0.ne m6_0 (by assumption))⟩)
      have hR8_2 := hR8_2.offT m1_0 hU12_6.but (by first | rfl | assumption)
      have m9_6 := m9_6.off hU12_6.but (by first | exact nm1_0_9_6.symm | exact ⟨m9_6.ne m1_0 rfl⟩ | exact ⟨m9_6.ne m1_0 (by assumption)⟩ | exact ⟨Ne.symm (m1_0.ne m9_6 (by assumption))⟩)
      have hO12_5 := hO12_5.offU m1_0 hU12_6.but (.inl rfl)
      have hX := hX.upd hU12_6.but gb1_0
      have m1_0 := hU12_6.blk
      refine xl_nil ?_
      refine xblock_normal ?_
      first
        | exact xround_n (RecKept.of hD0 hL0 hD hL) ⟨_, _, _, _, m1_0, by rw [frs_take hi6]; exact hO12_5, hR, mt, hR11_2, hc11_2, hna11_2, fun h => absurd h (by omega), mi, m0_0, hX⟩
        | exact xround_n (RecKept.of hD0 hL0 hD hL) ⟨_, _, _, _, m1_0, by rw [frs_take hi6]; exact hO12_5, hR, by rw [← gone_none (l := l) (i := i) (by omega)]; exact mt, by rw [← gone_none (l := l) (i := i) (by omega)]; exact hR8_2, by rw [← gone_none (l := l) (i := i) (by omega)]; exact hc8_2, hna8_2, fun h => absurd h (by omega), mi, m0_0, hX⟩
  · skip
    clear hX mt hR m0_0 m1_0 mi
    rintro Hd6 ⟨va, vc, at_, ct, m1_0, ho, hR, mt, hRt, hct, hnat, h00, mi, m0_0, hX⟩ hM
    replace m1_0 : Blk Hd6 b1_0 [.slice va (l.length) vc] 33 := m1_0
    replace ho : Own Hd6 H.size 52 5 (.slice va (l.length) vc) (l.length) (fr (l.take (l.length))) := ho
    replace hR : RowsT Hd6 69 5 a l := hR
    replace mt : Blk Hd6 bt (.slice at_ (goneR l (l.length)).length ct :: rest) t := mt
    replace hRt : RowsT Hd6 69 5 at_ (goneR l (l.length)) := hRt
    replace hct : (goneR l (l.length)).length ≤ ct := hct
    replace hnat : at_ = none → ct = 0 := hnat
    replace h00 : (l.length) = 0 → at_ = a ∧ ct = c := h00
    replace mi : Blk Hd6 bi [.pointer (some ⟨bt, 0, none⟩)] 29 := mi
    replace m0_0 : Blk Hd6 b0_0 [.pointer (some ⟨bt, 0, none⟩)] 29 := m0_0
    replace hX : But bt H Hd6 := hX
    rw [List.take_length] at ho
    rw [gone_all] at mt
    refine xc_seq ?_
    refine xc_region ?_
    refine xl_light rfl rfl rfl (lv_load (v := .slice _ _ _) rfl rfl (ld_blk m1_0 rfl)) ?_
    refine xl_pure rfl rfl rfl (pv_assign (v := .slice _ _ _) rfl rfl) ?_
    refine xl_nil ?_
    refine xthen_normal ?_
    refine xc_retm rfl hM.h ?_
    have uM := lpw_set (o' := .deferred none) hM.h hM.r
    have mt := mt.lp uM
    have hR := hR.lp uM
    have m0_0 := m0_0.lp uM
    have m1_0 := m1_0.lp uM
    have mi := mi.lp uM
    have ho := ho.lp uM
    have hRt := hRt.lp uM
    have hX := hX.lp uM hXs
    refine xret_ret ?_
    refine fin_ret (res1 (v := .slice _ _ _) rfl rfl) ?_
    exact ⟨_, _, _, _, rfl, own_rowsT (n := l.length) hR.wide ho, hX, mt⟩
  · skip
    intro _ h; exact h.elim
end Go.XG
